/- The reference: words AS tj seen, lists AS are full. -/
import Derived.Test.YtckchelhlpifiaaGreatDoorVE
set_option linter.unusedSimpArgs false
set_option linter.unusedVariables false
set_option linter.defProp false
set_option maxHeartbeats 32000000
set_option maxRecDepth 100000
namespace Go.Proofs.T
open Go Go.Ab
open Nat (reduceMul reduceEqDiff reduceAdd)
theorem GP {l:List By}{w:By}:(l.any fun x=>decide (x=w))=l.contains w:=by
 rw[Bool.eq_iff_iff,List.any_eq_true,List.contains_iff_mem];constructor
 ·rintro⟨x,h1,h2⟩;rw[<- of_decide_eq_true h2];exact h1
 ·exact fun h=>⟨w,h,decide_eq_true rfl⟩
theorem NZ {w u:By}{x:Value}:∀ {kv:List (By×Value)},U9 u (GG w x kv)=if u=w then some x else U9 u kv
 | []=>rfl
 | (k,v)::l=>by
   rw[Ll];by_cases h:w=k
   ·rw[if_pos h,CZ,CZ];by_cases hu:u=w
    ·rw[if_pos hu,if_pos hu]
    ·rw[if_neg hu,if_neg hu,if_neg (by rw[<- h];exact hu)]
   ·rw[if_neg h,CZ,NZ,CZ];by_cases hu:u=k
    ·rw[if_pos hu,if_pos hu,if_neg (by rw[hu];exact fun e=>h e.symm)]
    ·rw[if_neg hu,if_neg hu]
theorem Ta {Z:St}{l:List By}{w:By}{lb:Nat}(hr:Z.row lb=some (l.map str)) (hl:l.length<=100) :
  Ev (go Tryz.prog HS (.fn 85) [.slice (some ⟨lb,0,none⟩) l.length l.length,str w] Z) (fun r=>r=⟨false,.bool (l.contains w),Z⟩) ⟨⟩:=by
 refine D0 Tryz.func85 rfl rfl ?_;refine gS ?_
 refine F4 l.length (fun i fr τ=>fr.get 0=some (.slice (some ⟨lb,0,none⟩) l.length l.length)/\fr.get 1=some (str w)/\fr.get 5=some (.int .i64 (i:Nat))/\τ=Z/\((l.take i).any fun x=>decide (x=w))=false)
  (fun r=>(∃ fr,r=⟨.exit 0,fr,Z⟩/\(l.any fun x=>decide (x=w))=false)\/(∃ fr,r=⟨.ret,fr,Z⟩/\fr.get 4=some (.bool true)/\(l.any fun x=>decide (x=w))=true)) ?_ ?_ ?_ ?_
 ·exact⟨fR,fR,fR,rfl,rfl⟩
 ·rintro i fr τ hi ⟨g0,g1,g5,rfl,ha⟩;have hc:=J2 hi;have hi':Nat.blt i l.length=true:=by rw[Nat.blt_eq];exact hi
  have hi2:decide (i<l.length)=true:=decide_eq_true hi;obtain⟨x,hx⟩:=E8 hi;have m1:sub (l.map str) i 1=some [str x]:=N3 (by rw[List.getElem?_map,hx];rfl);refine gS1 (a8N @g0 @g1 @g5 @hc @hi' @hi2 @hr @m1) ?_;cases hxe:decide (x=w)with
  | true=>
    refine gS1 (a4N @g0 @g1 @g5 @hxe) ?_;refine .inr ⟨_,rfl,fR,List.any_eq_true.2 ⟨x,List.mem_of_getElem? hx,hxe⟩⟩
  | false=>
    refine gS1 (a4N @g0 @g1 @g5 @hxe) ?_;refine⟨fR1 g0,fR1 g1,fR,by trivial,?_⟩;rw[List.take_add_one,hx,List.any_append,ha]
    simpa using hxe
 ·rintro fr τ ⟨g0,g1,g5,rfl,ha⟩;rw[List.take_length]at ha;have hc:decide (((l.length:Nat):Int)<((l.length:Nat):Int))=false:=by simp
  refine gS1 (a4N @g0 @g1 @g5 @hc) ?_;exact .inl ⟨_,rfl,ha⟩
 rintro r (⟨fr,rfl,ha⟩|⟨fr,rfl,g4,ha⟩)
 ·refine gS1 @Tryz.results85 ?_;rw[<- GP,ha]
 ·refine gS1 (aI @g4 @Tryz.results85) ?_;rw[<- GP,ha]
section
variable {Z0 Z Z' τ:St}{b:Nat}{T T':Tn}{seen seen':List By}{s:By}{tv:Value}{A1:List Tok}{st st':Except Er Nat}{v:Nat->Value}{fc fc' vs vs':List Value}{k:Nat}{C8:List Value}{a e:Int}
theorem SY {w:By}{x0 x1 x2 x3 x4 x5 x6 x7 x8 x9 x10 x11 x12 x13 x14 x15 x16 x17 x18 x19 x20 x21 x22 x23 x24:Value}{la:Option Addr}{lo:Nat}(hr:Z.row b=some [x0,x1,x2,x3,x4,x5,x6,x7,x8,x9,x10,x11,x12,x13,x14,x15,x16,x17,x18,x19,x20,x21,x22,x23,x24,.slice la seen.length seen.length]) (hol:OL lo Z 1 (.slice la seen.length seen.length) (seen.map fun s=>[str s])) (hl:seen.length<=100000000) :
  Ev (go Tryz.prog HS (.fn 39) [.pointer (some ⟨b,0,none⟩),str w] Z) (fun r=>r=⟨false,.bool (seen.contains w),Z⟩) ⟨⟩:=by
 obtain⟨a',cc,b2,off,cells,q0,l1,l2⟩:=hol.sl.use;rw[List.length_map]at q0 l1;cases q0;refine D0 Tryz.func39 rfl rfl ?_;refine gS ?_
 refine F4 seen.length (fun i fr τ=>fr.get 0=some (.pointer (some ⟨b,0,none⟩))/\fr.get 1=some (str w)/\fr.get 5=some (.int .i64 (i:Nat))/\τ=Z/\((seen.take i).any fun x=>decide (x=w))=false)
  (fun r=>(∃ fr,r=⟨.exit 0,fr,Z⟩/\(seen.any fun x=>decide (x=w))=false)\/(∃ fr,r=⟨.ret,fr,Z⟩/\fr.get 4=some (.bool true)/\(seen.any fun x=>decide (x=w))=true)) ?_ ?_ ?_ ?_
 ·exact⟨fR,fR,fR,rfl,rfl⟩
 ·rintro i fr τ hi ⟨g0,g1,g5,rfl,ha⟩;have hc:=J2 hi;obtain⟨x,hx⟩:=E8 hi;obtain⟨sp,rfl,l3,l4⟩:=l1 om;have m1:sub cells (off+i*1) 1=some [str x]:=l2 i [str x] (by rw[List.getElem?_map,hx];rfl);rw[Nat.mul_one]at m1;refine gX1 (a7N @g0 @g1 @g5 @hc @hr @l4 @m1) ?_;cases hxe:decide (x=w)with
  | true=>
    refine gS1 (a4N @g0 @g1 @g5 @hxe) ?_;refine .inr ⟨_,rfl,fR,List.any_eq_true.2 ⟨x,List.mem_of_getElem? hx,hxe⟩⟩
  | false=>
    refine gS1 (a4N @g0 @g1 @g5 @hxe) ?_;refine⟨fR1 g0,fR1 g1,fR,by trivial,?_⟩;rw[List.take_add_one,hx,List.any_append,ha]
    simpa using hxe
 ·rintro fr τ ⟨g0,g1,g5,rfl,ha⟩;rw[List.take_length]at ha;have hc:decide (((seen.length:Nat):Int)<((seen.length:Nat):Int))=false:=by simp
  refine gX1 (a5N @g0 @g1 @g5 @hc @hr) ?_;exact .inl ⟨_,rfl,ha⟩
 rintro r (⟨fr,rfl,ha⟩|⟨fr,rfl,g4,ha⟩)
 ·refine gS1 @Tryz.results39 ?_;rw[<- GP,ha]
 ·refine gS1 (aI @g4 @Tryz.results39) ?_;rw[<- GP,ha]
def HT (w:By) (T:Tn):Bool:=(((decide (w=[108,111,116])&&decide (T.G8.length=12))||(decide (w=[99,114,105,116,101,114,105,111,110])&&decide (T.D2.length=12)))||(decide (w=[114,101,113,117,105,114,101])&&decide (T.reqs.length=24)))||(decide (w=[99,111,109,98,111])&&decide (T.D6.length=12))
theorem pd {w:By}(h:Rn Z0 Z b T seen s tv A1 st v fc vs):Ev (go Tryz.prog HS (.fn 86) [.pointer (some ⟨b,0,none⟩),str w] Z) (fun r=>r=⟨false,.bool (HT w T),Z⟩) ⟨⟩:=by
 obtain⟨kk,a,e,c1,c2,c3,c4,c5,hfc,hh,hd,hs,ro⟩:=h.cells;obtain⟨l0,y0⟩:=h.lst (i:=0) (n:=T.G8.length) om (List.length_map ..);obtain⟨l1,y1⟩:=h.lst (i:=1) (n:=T.D2.length) om (List.length_map ..);obtain⟨l2,y2⟩:=h.lst (i:=2) (n:=T.reqs.length) om (List.length_map ..);obtain⟨l4,y4⟩:=h.lst (i:=4) (n:=T.D6.length) om (by rw[<- h.iv.len];exact List.length_map ..);have rr:=A6 ro;rw[y0,y1,y2,y4]at rr;have e0:decide (((T.G8.length:Nat):Int)=12)=decide (T.G8.length=12):=by rw[Bool.eq_iff_iff];simp;omega
 have e1:decide (((T.D2.length:Nat):Int)=12)=decide (T.D2.length=12):=by rw[Bool.eq_iff_iff];simp;omega
 have e2:decide (((T.reqs.length:Nat):Int)=24)=decide (T.reqs.length=24):=by rw[Bool.eq_iff_iff];simp;omega
 have e4:decide (((T.D6.length:Nat):Int)=12)=decide (T.D6.length=12):=by rw[Bool.eq_iff_iff];simp;omega
 refine D0 Tryz.func86 rfl rfl ?_;unfold HT;by_cases h0:w=[108,111,116]
 ·subst h0;have q0:decide (([108,111,116]:By)=[108,111,116])=true:=rfl;have q1:decide (([108,111,116]:By)=[99,114,105,116,101,114,105,111,110])=false:=rfl;have q2:decide (([108,111,116]:By)=[114,101,113,117,105,114,101])=false:=rfl;have q3:decide (([108,111,116]:By)=[99,111,109,98,111])=false:=rfl;cases hl:decide (T.G8.length=12)<;>(simp(maxSteps:=8000000) (disch:=first|exact dS|fail) only[↓bD,bW,reduceMul,reduceEqDiff,reduceAdd,Nat.reduceBEq,reduceIte,Option.isNone_none,↓Bx,↓Aj,↓Ak,↓Al,↓V3,↓V4,↓V5,↓V6,↓O5,↓O6,↓O7,↓O8,↓O9,↓P6,Am,V1,↓IZ,↓Ia,↓Ib,↓Ic,↓Dt,↓Du,↓Dv,↓Ie,↓Ig,↓Ih,↓Ii,↓Dw,↓Dx,↓Dy,↓Dz,↓EA,↓EB,↓EC,↓ED,↓Ij,↓EE,q0,q1,q2,q3,rr,e0,hl,G9,H2,Bool.true_and,Bool.false_and,Bool.or_false,Bool.false_or,Tryz.results86])
 by_cases h1:w=[99,114,105,116,101,114,105,111,110]
 ·subst h1;have q0:decide (([99,114,105,116,101,114,105,111,110]:By)=[108,111,116])=false:=rfl;have q1:decide (([99,114,105,116,101,114,105,111,110]:By)=[99,114,105,116,101,114,105,111,110])=true:=rfl;have q2:decide (([99,114,105,116,101,114,105,111,110]:By)=[114,101,113,117,105,114,101])=false:=rfl;have q3:decide (([99,114,105,116,101,114,105,111,110]:By)=[99,111,109,98,111])=false:=rfl;cases hl:decide (T.D2.length=12)<;>(simp(maxSteps:=8000000) (disch:=first|exact dS|fail) only[↓bD,bW,reduceMul,reduceEqDiff,reduceAdd,Nat.reduceBEq,reduceIte,Option.isNone_none,↓Bx,↓Aj,↓Ak,↓Al,↓V3,↓V4,↓V5,↓V6,↓O5,↓O6,↓O7,↓O8,↓O9,↓P6,Am,V1,↓IZ,↓Ia,↓Ib,↓Ic,↓Dt,↓Du,↓Dv,↓Ie,↓Ig,↓Ih,↓Ii,↓Dw,↓Dx,↓Dy,↓Dz,↓EA,↓EB,↓EC,↓ED,↓Ij,↓EE,q0,q1,q2,q3,rr,e1,hl,G9,H2,Bool.true_and,Bool.false_and,Bool.or_false,Bool.false_or,Tryz.results86])
 by_cases h2:w=[114,101,113,117,105,114,101]
 ·subst h2;have q0:decide (([114,101,113,117,105,114,101]:By)=[108,111,116])=false:=rfl;have q1:decide (([114,101,113,117,105,114,101]:By)=[99,114,105,116,101,114,105,111,110])=false:=rfl;have q2:decide (([114,101,113,117,105,114,101]:By)=[114,101,113,117,105,114,101])=true:=rfl;have q3:decide (([114,101,113,117,105,114,101]:By)=[99,111,109,98,111])=false:=rfl;cases hl:decide (T.reqs.length=24)<;>(simp(maxSteps:=8000000) (disch:=first|exact dS|fail) only[↓bD,bW,reduceMul,reduceEqDiff,reduceAdd,Nat.reduceBEq,reduceIte,Option.isNone_none,↓Bx,↓Aj,↓Ak,↓Al,↓V3,↓V4,↓V5,↓V6,↓O5,↓O6,↓O7,↓O8,↓O9,↓P6,Am,V1,↓IZ,↓Ia,↓Ib,↓Ic,↓Dt,↓Du,↓Dv,↓Ie,↓Ig,↓Ih,↓Ii,↓Dw,↓Dx,↓Dy,↓Dz,↓EA,↓EB,↓EC,↓ED,↓Ij,↓EE,q0,q1,q2,q3,rr,e2,hl,G9,H2,Bool.true_and,Bool.false_and,Bool.or_false,Bool.false_or,Tryz.results86])
 by_cases h3:w=[99,111,109,98,111]
 ·subst h3;have q0:decide (([99,111,109,98,111]:By)=[108,111,116])=false:=rfl;have q1:decide (([99,111,109,98,111]:By)=[99,114,105,116,101,114,105,111,110])=false:=rfl;have q2:decide (([99,111,109,98,111]:By)=[114,101,113,117,105,114,101])=false:=rfl;have q3:decide (([99,111,109,98,111]:By)=[99,111,109,98,111])=true:=rfl;cases hl:decide (T.D6.length=12)<;>(simp(maxSteps:=8000000) (disch:=first|exact dS|fail) only[↓bD,bW,reduceMul,reduceEqDiff,reduceAdd,Nat.reduceBEq,reduceIte,Option.isNone_none,↓Bx,↓Aj,↓Ak,↓Al,↓V3,↓V4,↓V5,↓V6,↓O5,↓O6,↓O7,↓O8,↓O9,↓P6,Am,V1,↓IZ,↓Ia,↓Ib,↓Ic,↓Dt,↓Du,↓Dv,↓Ie,↓Ig,↓Ih,↓Ii,↓Dw,↓Dx,↓Dy,↓Dz,↓EA,↓EB,↓EC,↓ED,↓Ij,↓EE,q0,q1,q2,q3,rr,e4,hl,G9,H2,Bool.true_and,Bool.false_and,Bool.or_false,Bool.false_or,Tryz.results86])
 simp(maxSteps:=8000000) (disch:=first|exact dS|fail) only[↓bD,bXn,↓bVd,↓bXd,reduceMul,reduceEqDiff,reduceAdd,Nat.reduceBEq,reduceIte,Option.isNone_none,decide_eq_false h0,decide_eq_false h1,decide_eq_false h2,decide_eq_false h3,rr,G9,H2,Bool.true_and,Bool.false_and,Bool.or_false,Bool.false_or,Tryz.results86]
end
end Go.Proofs.T
namespace Go.Proofs.T
open Go Go.Ab
section
variable {w:By}{ws:List By}
def Yr:List By:=[[116,101,110,100,101,114],[112,114,105,99,101],[102,111,114,109,117,108,97],[116,105,101],[109,111,115,116],[98,117,100,103,101,116],[116,105,109,101,115]]
def Ys:List By:=[[108,111,116],[99,114,105,116,101,114,105,111,110],[114,101,113,117,105,114,101],[99,111,109,98,111]]
def yT (h:kS w=none):Yr.contains w=false/\Ys.contains w=false:=by
 have h0:w≠[116,101,110,100,101,114]:=by rintro rfl;cases h
 have h1:w≠[108,111,116]:=by rintro rfl;cases h
 have h2:w≠[99,114,105,116,101,114,105,111,110]:=by rintro rfl;cases h
 have h3:w≠[114,101,113,117,105,114,101]:=by rintro rfl;cases h
 have h4:w≠[112,114,105,99,101]:=by rintro rfl;cases h
 have h5:w≠[102,111,114,109,117,108,97]:=by rintro rfl;cases h
 have h6:w≠[116,105,101]:=by rintro rfl;cases h
 have h7:w≠[109,111,115,116]:=by rintro rfl;cases h
 have h8:w≠[99,111,109,98,111]:=by rintro rfl;cases h
 have h9:w≠[98,117,100,103,101,116]:=by rintro rfl;cases h
 have h10:w≠[116,105,109,101,115]:=by rintro rfl;cases h
 constructor<;>simp[Yr,Ys,h0,h1,h2,h3,h4,h5,h6,h7,h8,h9,h10]
def yU {ks:KS}(h:kS w=some ks):Yr.contains w=ks.once/\Ys.contains w= !ks.once/\∀ T,HT w T=ks.full T:=by
 by_cases h0:w=[116,101,110,100,101,114]
 ·subst h0;have e:=z8z h;refine⟨by rw[<- e];rfl,by rw[<- e];rfl,fun T=>by rw[<- e];unfold HT;simp⟩
 by_cases h1:w=[108,111,116]
 ·subst h1;have e:=z8z h;refine⟨by rw[<- e];rfl,by rw[<- e];rfl,fun T=>by rw[<- e];unfold HT;simp⟩
 by_cases h2:w=[99,114,105,116,101,114,105,111,110]
 ·subst h2;have e:=z8z h;refine⟨by rw[<- e];rfl,by rw[<- e];rfl,fun T=>by rw[<- e];unfold HT;simp⟩
 by_cases h3:w=[114,101,113,117,105,114,101]
 ·subst h3;have e:=z8z h;refine⟨by rw[<- e];rfl,by rw[<- e];rfl,fun T=>by rw[<- e];unfold HT;simp⟩
 by_cases h4:w=[112,114,105,99,101]
 ·subst h4;have e:=z8z h;refine⟨by rw[<- e];rfl,by rw[<- e];rfl,fun T=>by rw[<- e];unfold HT;simp⟩
 by_cases h5:w=[102,111,114,109,117,108,97]
 ·subst h5;have e:=z8z h;refine⟨by rw[<- e];rfl,by rw[<- e];rfl,fun T=>by rw[<- e];unfold HT;simp⟩
 by_cases h6:w=[116,105,101]
 ·subst h6;have e:=z8z h;refine⟨by rw[<- e];rfl,by rw[<- e];rfl,fun T=>by rw[<- e];unfold HT;simp⟩
 by_cases h7:w=[109,111,115,116]
 ·subst h7;have e:=z8z h;refine⟨by rw[<- e];rfl,by rw[<- e];rfl,fun T=>by rw[<- e];unfold HT;simp⟩
 by_cases h8:w=[99,111,109,98,111]
 ·subst h8;have e:=z8z h;refine⟨by rw[<- e];rfl,by rw[<- e];rfl,fun T=>by rw[<- e];unfold HT;simp⟩
 by_cases h9:w=[98,117,100,103,101,116]
 ·subst h9;have e:=z8z h;refine⟨by rw[<- e];rfl,by rw[<- e];rfl,fun T=>by rw[<- e];unfold HT;simp⟩
 by_cases h10:w=[116,105,109,101,115]
 ·subst h10;have e:=z8z h;refine⟨by rw[<- e];rfl,by rw[<- e];rfl,fun T=>by rw[<- e];unfold HT;simp⟩
 unfold kS at h;simp only[z0z h0,z0z h1,z0z h2,z0z h3,z0z h4,z0z h5,z0z h6,z0z h7,z0z h8,z0z h9,z0z h10]at h;cases h
section
variable {Z0 Z Z' Z1 τ:St}{b:Nat}{T T':Tn}{seen seen':List By}{s:By}{tv:Value}{A1:List Tok}{st st':Except Er Nat}{v:Nat->Value}{fc fc' vs vs':List Value}{k:Nat}{C8:List Value}{a e:Int}
def ky {k:Nat}{t:Tok}(h:t∈CA ws k):t.1∈ws:=by
 induction ws generalizing k with
 |nil=>cases h
 | cons w ws ih=>
   rcases DK.1 (show t∈(if w=[]then[]else[(w,k)])++CA ws (k+w.length+1)from h)with h|h
   ·split at h
    ·cases h
    ·rw[GK]at h;subst h;exact IU ..
   ·exact GH _ (ih h)
def Yt (h:w∈ws):w.length+1<=lens ws:=by
 induction ws with
 |nil=>cases h
 | cons u ws ih=>
   show _<=u.length+1+lens ws;rcases BJ.1 h with rfl|h
   ·omega
   ·have:=ih h;omega
def OH {l:By}{k:Nat}(hl:l.length<10000000):u9 (G3 l k):=by
 intro t ht;unfold G3 at ht;rcases DK.1 ht with ht|ht
 ·have:=Yt (ky ht);rw[FE]at this;omega
 ·rw[GK]at ht;subst ht;simp
structure Rp (Z0 Z:St) (b:Nat) (T:Tn) (seen:List By) (s:By) (v:Nat->Value) (fc vs:List Value):Prop where
 ext:B9 b Z0 Z
 btl:b<Z0.n
 row:∃ (tv:Value) (k:Int),Z.A7 b=some (tv:: .int .i64 k:: .int .i64 0:: .int .i64 0::o9 s T v fc)
 sl:∀ i,i<6->OL Z0.n Z (szT i) (v i) (Hn T vs seen i)
 dis:∀ i j c,i<6->j<6->i≠j->I2 (v i)=some c->I2 (v j)≠some c
 fx:Ag (J5 Z (CT b v)) fc T.f
 iv:FP (Fk (J5 Z (CT b v))) vs T.D6
def Rn.rp (h:Rn Z0 Z b T seen s tv A1 (.ok k) v fc vs):Rp Z0 Z b T seen s v fc vs:=by
 obtain⟨kk,a,e,⟨rfl,rfl,rfl⟩,hs⟩:=h.sc;exact⟨h.ext,h.btl,⟨tv,_,hs.row⟩,h.sl,h.dis,h.fx,h.iv⟩
def Rp.lt (h:Rp Z0 Z b T seen s v fc vs):b<Z.n:=z5z h.btl h.ext.n
def Rp.start (h:Rp Z0 Z b T seen s v fc vs) (E1:Ext Z Z1) (hol:OL Z.n Z1 2 tv (A1.map W6)) (h0:0<A1.length) (hl:A1.length<4611686018427387904) (hX:B9 b Z1 τ) (hr:τ.A7 b=some (tv:: .int .i64 ((0:Nat):Int):: .int .i64 0:: .int .i64 0::o9 s T v fc)):
  Rn Z0 τ b T seen s tv A1 (.ok 0) v fc vs:=by
 have hE:B9 b Z τ:=(B9.of E1).trans hX;have hb:=h.lt;have GF:ET (J5 Z (CT b v)) (J5 τ (CT b v)):=K0 hE.n fun c hc hm=>⟨hm,hE.row hc fun e=>hm (l8.2 (.inl e))⟩
 refine⟨h.ext.trans hE,h.btl,⟨0,0,0,⟨rfl,rfl,rfl⟩,hr,z5z hb hE.n,(OL.BI hol hX hb).sl,fun e=>by have:=(hol.blk e).1;omega,h0,hl⟩,fun i hi=>?_,h.dis,h.fx.J3 GF,h.iv.mono fun _ _ hx=>SL.J3 hx GF,fun c hc i hi e=>?_⟩
 ·refine(h.sl i hi).J3 hE.n fun c hc=>hE.same c ((h.sl i hi).blk hc).2 fun e=>?_;have:=((h.sl i hi).blk hc).1;have:=h.btl;omega
 ·have:=(hol.blk hc).1;have:=((h.sl i hi).blk e).2;omega
def NxP (Z0:St) (b:Nat) (s:By) (n:Nat) (R:Except Er (Tn×List (By×Value))) (r:CR):Prop:=∃ Z' T' seen' v' fc' vs',r=⟨false,.tuple ⟨[]⟩,Z'⟩/\seen'.length<=n/\match R with
 | .ok (T2,kv)=>T'=T2/\(∀ w,seen'.contains w=(U9 w kv).isSome)/\Rp Z0 Z' b T' seen' s v' fc' vs'
 | .error x=>∃ tv A1,Rn Z0 Z' b T' seen' s tv A1 (.error x) v' fc' vs'
def WO {from' to:Nat}{kv:List (By×Value)}(h:Rp Z0 Z b T seen s v fc vs) (hft:from'<=to) (hto:to<=s.length) (hsl:s.length<10000000) (hF:Fits T) (h12:T.F5.length<=12) (hkv:∀ w,seen.contains w=(U9 w kv).isSome) (hsn:seen.length<=10000000):
  Ev (gO 38 [.pointer (some ⟨b,0,none⟩),.int .i64 (from':Nat),.int .i64 (to:Nat)] Z) (NxP Z0 b s (seen.length+1) (CO ((s.take to).drop from') from' T kv)) ⟨⟩:=by
 refine D0 Tryz.func38 rfl rfl ?_;obtain⟨tv0,k0,ro⟩:=h.row;obtain⟨c1,c2,c3,c4,c5,rfl⟩:=fc5 h.fx;have hb:=h.lt;have ro:Z.A7 b=some [tv0,.int .i64 k0,.int .i64 0,.int .i64 0,str s,str T.name,v 0,v 1,v 2,.int .i64 T.low,.int .i64 T.high,c1,c2,c3,c4,c5,v 3,.int .i64 T.P8,v 4,.int .i64 T.J8,.int .i64 T.t.q,.int .i64 T.t.b,.int .i64 T.t.g,.int .i64 T.t.p,.int .i64 T.t.s,v 5]:=ro;have rr:=A6 ro;refine gX1 rr ?_;refine(kX hft hto hsl).mono ?_;generalize hl:(s.take to).drop from'=l
 generalize htk:G3 l from'=A1
 rintro r ⟨tv,Z1,rfl,hol,E1⟩;have n1:=E1.n;have ro1:=(show Z1.A7 b=Z.A7 b from B8 (E1.same b hb)).trans ro;have rr1:=A6 ro1;obtain⟨ta,rfl⟩:=OL.shape hol;rw[z2z]at hol;have hll:l.length=to-from':=by rw[<- hl,Ei,Dh];omega
 have Ay5:A1.length<=l.length+2:=by
  rw[<- htk];unfold G3;rw[BD];have:=KJ (I8 32 l) from';have:=Eh 32 l;have:=Ju 32 l;simp;omega
 have MP:0<A1.length:=by rw[<- htk];unfold G3;simp
 have C7:Ends A1:=by rw[<- htk];exact KK
 have hsh:u9 A1:=by rw[<- htk];exact OH om
 obtain⟨S,hS⟩:=nm ((Z1.upd b [.slice ta A1.length A1.length,.int .i64 k0,.int .i64 0,.int .i64 0,str s,str T.name,v 0,v 1,v 2,.int .i64 T.low,.int .i64 T.high,c1,c2,c3,c4,c5,v 3,.int .i64 T.P8,v 4,.int .i64 T.J8,.int .i64 T.t.q,.int .i64 T.t.b,.int .i64 T.t.g,.int .i64 T.t.p,.int .i64 T.t.s,v 5]).upd b [.slice ta A1.length A1.length,.int .i64 0,.int .i64 0,.int .i64 0,str s,str T.name,v 0,v 1,v 2,.int .i64 T.low,.int .i64 T.high,c1,c2,c3,c4,c5,v 3,.int .i64 T.P8,v 4,.int .i64 T.J8,.int .i64 T.t.q,.int .i64 T.t.b,.int .i64 T.t.g,.int .i64 T.t.p,.int .i64 T.t.s,v 5]);have R0:Rn Z0 S b T seen s (.slice ta A1.length A1.length) A1 (.ok 0) v [c1,c2,c3,c4,c5] vs:=h.start E1 hol MP om (by rw[<- hS];exact(B9.refl.upd _).upd _) (by rw[<- hS,D5];rfl);rw[z2z];refine gX1 (aI ro1 (aI rr1 hS)) ?_
 try rw[hS]
 obtain⟨kk,a,e,d1,d2,d3,d4,d5,hfc,hh,hd,hs,roS⟩:=R0.cells;cases hfc;obtain⟨rfl,rfl,rfl⟩:=hh;have rS:=A6 roS;refine(K5 hs).mono ?_;rintro r rfl;have ht0:=I9 MP;have hlw:(A9 A1 0).1=[]->CO l from' T kv= .ok (T,kv):=fun e=>by unfold CO;rw[htk,z1z e]
 have hls:(A9 A1 0).1≠[]->CO l from' T kv=(match kS (A9 A1 0).1 with
  |none=> .error ((A9 A1 0).2,12)
  |some ks=>if (ks.once&&(U9 (A9 A1 0).1 kv).isSome)=true then .error ((A9 A1 0).2,13)else
     if ks.full T=true then .error ((A9 A1 0).2,2)else
      G2 (ks.rd A1 (l.drop ((A9 A1 0).2+(A9 A1 0).1.length-from')) ((A9 A1 0).2+(A9 A1 0).1.length) T 1) fun(T',k)=>
       if (A9 A1 k).1=[]then .ok (T',GG (A9 A1 0).1 tru kv)else .error ((A9 A1 k).2,12)):=fun e=>by unfold CO;rw[htk,z0z e];rfl
 have RC:(A9 A1 0).1≠[]->from'<=(A9 A1 0).2/\(A9 A1 0).2+(A9 A1 0).1.length<=from'+l.length:=fun e=>by rw[<- htk]at e ⊢;exact Tq e
 have AU1:(A9 A1 0).1≠[]->1<A1.length:=fun e=>C7 0 _ ht0 e;generalize hw:(A9 A1 0).1=w at hlw hls RC AU1;cases hw0:decide (w=[])with
 | true=>
   refine gX1 (aI hw0 (a3N @G9 @H2 @Tryz.results38)) ?_;rw[hlw (z6z hw0)];exact⟨_,T,seen,_,_,_,rfl,om,rfl,hkv,R0.rp⟩
 | false =>
   have hwn:=z9z hw0;rw[hls hwn];refine gX1 hw0 ?_;have rA:(S.new [str [116,101,110,100,101,114],str [112,114,105,99,101],str [102,111,114,109,117,108,97],str [116,105,101],str [109,111,115,116],str [98,117,100,103,101,116],str [116,105,109,101,115]]).row S.n=some (Yr.map str):=cL;refine(Ta (w:=w) (l:=Yr) rA (by decide)).mono ?_;rintro r rfl;refine gX ?_;have rB:((S.new [str [116,101,110,100,101,114],str [112,114,105,99,101],str [102,111,114,109,117,108,97],str [116,105,101],str [109,111,115,116],str [98,117,100,103,101,116],str [116,105,109,101,115]]).new [str [108,111,116],str [99,114,105,116,101,114,105,111,110],str [114,101,113,117,105,114,101],str [99,111,109,98,111]]).row (S.n+1)=some (Ys.map str):=cL;refine(Ta (w:=w) (l:=Ys) rB (by decide)).mono ?_;rintro r rfl;refine gX ?_;have R2:Rn Z0 ((S.new [str [116,101,110,100,101,114],str [112,114,105,99,101],str [102,111,114,109,117,108,97],str [116,105,101],str [109,111,115,116],str [98,117,100,103,101,116],str [116,105,109,101,115]]).new [str [108,111,116],str [99,114,105,116,101,114,105,111,110],str [114,101,113,117,105,114,101],str [99,111,109,98,111]]) b T seen s (.slice ta A1.length A1.length) A1 (.ok 0) v [c1,c2,c3,c4,c5] vs:=R0.J0 ((Ext.new _ _).trans (.new _ _));obtain⟨S2,hS2⟩:=nm ((S.new [str [116,101,110,100,101,114],str [112,114,105,99,101],str [102,111,114,109,117,108,97],str [116,105,101],str [109,111,115,116],str [98,117,100,103,101,116],str [116,105,109,101,115]]).new [str [108,111,116],str [99,114,105,116,101,114,105,111,110],str [114,101,113,117,105,114,101],str [99,111,109,98,111]]);rw[hS2]at R2 ⊢;clear rA rB;obtain⟨ls,OM⟩:=R2.lst (i:=5) (n:=seen.length) om (z2z ..);obtain⟨kk,a,e,d1,d2,d3,d4,d5,hfc,hh,hd,hs2,ro2⟩:=R2.cells;cases hfc;obtain⟨rfl,rfl,rfl⟩:=hh;rw[OM]at ro2;have rr2:=A6 ro2;have ol5:=R2.sl 5 om;rw[OM]at ol5;refine(SY (seen:=seen) (w:=w) rr2 ol5 om).mono ?_;rintro r rfl;refine gX ?_;refine(pd (w:=w) R2).mono ?_;rintro r rfl;have hb2:=R2.lt;have hkw:=hkv w;have BL3:=hs2.len;cases hk:kS w with
   | none=>
     obtain⟨k1,k2⟩:=yT hk;refine gX1 (aI k1 k2) ?_;refine(CB (er:=12) (st:= .ok 0) ⟨rfl,rfl,rfl⟩ hs2 om).mono ?_;rintro r ⟨Z3,a',e',rfl,X3,hh3,hs3⟩;have R3:=R2.Fh X3 hh3 hs3;have rr3:=A6 hs3.row;have hd3:decide (e'=0)=false:=hh3.dec;refine gX1 (aI rr3 (aI hd3 (a3N @G9 @H2 @Tryz.results38))) ?_;exact⟨_,T,seen,_,_,_,rfl,om,_,_,R3⟩
   | some ks =>
     obtain⟨k1,k2,k3⟩:=yU hk;have hfu:=k3 T;dsimp only;cases ho:ks.once&&(U9 w kv).isSome with
     | true=>
       rw[z1z rfl];rw[y6]at ho;rw[ho.1]at k1 k2;rw[ho.2]at hkw;refine gX1 (aI k1 (aI k2 hkw)) ?_;refine(CB (er:=13) (st:= .ok 0) ⟨rfl,rfl,rfl⟩ hs2 om).mono ?_;rintro r ⟨Z3,a',e',rfl,X3,hh3,hs3⟩;have R3:=R2.Fh X3 hh3 hs3;have rr3:=A6 hs3.row;have hd3:decide (e'=0)=false:=hh3.dec;refine gX1 (aI rr3 (aI hd3 (a3N @G9 @H2 @Tryz.results38))) ?_;exact⟨_,T,seen,_,_,_,rfl,om,_,_,R3⟩
     | false =>
       rw[z0z (by simp)];cases hon:ks.once with
       | true=>
         rw[hon,DL]at ho;rw[hon]at k1 k2;rw[ho]at hkw;cases hfl:ks.full T with
         | true=>
           rw[z1z rfl];rw[hfl]at hfu;refine gX1 (aI k1 (aI k2 (aI hkw hfu))) ?_;refine(CB (er:=2) (st:= .ok 0) ⟨rfl,rfl,rfl⟩ hs2 om).mono ?_;rintro r ⟨Z3,a',e',rfl,X3,hh3,hs3⟩;have R3:=R2.Fh X3 hh3 hs3;have rr3:=A6 hs3.row;have hd3:decide (e'=0)=false:=hh3.dec;refine gX1 (aI rr3 (aI hd3 (a3N @G9 @H2 @Tryz.results38))) ?_;exact⟨_,T,seen,_,_,_,rfl,om,_,_,R3⟩
         | false=>
           rw[z0z (by simp)];rw[hfl]at hfu;refine gUd (a35N @Bx @Aj @Ak @Al @V3 @V4 @V5 @V6 @O5 @O6 @O7 @O8 @O9 @P6 @IZ @Ia @Ib @Ic @Dt @Du @Dv @Ie @Ig @Ih @Ii @Dw @Dx @Dy @Dz @EA @EB @EC @ED @Ij @EE) (aI @A4 (aI @P9 (aI @N5 (aI @N9 (aI @N6 (aI @K6 (aI @M5 (aI @K7 (aI @K8 (aI @H8 (aI @Am (aI @V1 (aI @WQ (aI @Tryz.underlying86 (aI k1 (aI k2 (aI hkw (aI hfu rr2)))))))))))))))))) ?_;have R5:=R2.J0 (Ext.new (t:=none) S2 [str w]);have hl0:=R5.sl 5 om;have y0:I2 (v 5)≠some b:=fun e=>by have:=((R5.sl 5 om).blk e).1;have:=h.btl;omega
           rw[OM]at hl0 y0;refine G4 (lo:=Z0.n) (D4:=seen.map fun s=>[str s]) (row:=[str w]) (fun _ _ _ _=>M4) hl0 (D1 nL nL) (D8 (by simp) (by simp)) (by rw[z2z];omega) (by have:=R5.ext.n;simp at this ⊢;omega) ?_;intro v' Z7 y1 y2 y3;have ro7:=(show Z7.A7 b=S2.A7 b by rw[B8 (y2.same b (by simp;omega) y0),E9 om]).trans ro2;obtain⟨a',rfl⟩:=OL.shape y1;have R7:=R5.app (T':=T) (vs':=vs) (seen':=seen++[w]) (i:=5) (k:=0) (a:=0) (e:=0) ⟨rfl,rfl,rfl⟩ (hs2.ext (Ext.new (t:=none) S2 [str w])) om (by rw[OM];exact y2) (by show OL _ _ 1 _ (List.map _ _);rw[y7];exact y1) (by intro j hj hne;match j,hj,hne with|0,_,_=>rfl|1,_,_=>rfl|2,_,_=>rfl|3,_,_=>rfl|4,_,_=>rfl|5,_,hq=>exact absurd rfl hq) rfl R5.iv;obtain⟨k8,a8,e8,hh8,hs8⟩:=R7.sc;refine gX1 ro7 ?_;have hfi:=RC hwn;have R8:=R7.Fh (B9.refl.upd (p:=b) (cs:=[.slice ta A1.length A1.length,.int .i64 ((1:Nat):Int),.int .i64 0,.int .i64 0,str s,str T.name,v 0,v 1,v 2,.int .i64 T.low,.int .i64 T.high,c1,c2,c3,c4,c5,v 3,.int .i64 T.P8,v 4,.int .i64 T.J8,.int .i64 T.t.q,.int .i64 T.t.b,.int .i64 T.t.g,.int .i64 T.t.p,.int .i64 T.t.s,(.slice a' (seen.map (fun s=>[str s])++[[str w]]).length (seen.map (fun s=>[str s])++[[str w]]).length)]) ) (st':= .ok 1) (k':=1) (a':=0) (e':=0) ⟨rfl,rfl,rfl⟩ (hs8.K4 (B9.refl.upd _) (by rw[D5];rfl) (AU1 hwn));refine(SV hk R8 C7 hsh hF h12 hto hsl om).mono ?_;rintro r ⟨Z9,T9,st9,v9,fc9,vs9,rfl,R9,hE⟩;refine gS1 @Tryz.results38 ?_;have hse:∀ u,(seen++[w]).contains u=(U9 u (GG w tru kv)).isSome:=by
            intro u;rw[NZ];have hu:=hkv u;by_cases huw:u=w
            ·rw[z1z huw,huw];simp
            ·rw[z0z huw,<- hu];rw[z7z,PV,PV,DK,GK];exact⟨fun h=>h.elim id fun e=>absurd e huw,.inl⟩
           have hlq:(seen++[w]).length<=seen.length+1:=sI;have htx:(s.take to).drop ((A9 A1 0).2+w.length)=l.drop ((A9 A1 0).2+w.length-from'):=by
            rw[<- hl,Kz];congr 1;omega
           rw[htx]at hE;refine⟨_,T9,seen++[w],v9,fc9,vs9,rfl,hlq,?_⟩;unfold Gd at hE;cases hQ:ks.rd A1 (l.drop ((A9 A1 0).2+w.length-from')) ((A9 A1 0).2+w.length) T 1 with
           | error x=>
             rw[hQ]at hE;obtain rfl:st9= .error x:=hE;exact⟨_,_,R9⟩
           | ok p=>
             obtain⟨T2,k2⟩:=p;rw[hQ,C1]at hE;rw[C1];dsimp only at hE ⊢;by_cases hem:(A9 A1 k2).1=[]
             ·rw[z1z hem]at hE ⊢;obtain⟨rfl,rfl⟩:=hE;exact⟨rfl,hse,R9.rp⟩
             ·rw[z0z hem]at hE ⊢;obtain rfl:st9=_:=hE;exact⟨_,_,R9⟩
       | false=>
         rw[hon]at k1 k2;cases hfl:ks.full T with
         | true=>
           rw[z1z rfl];rw[hfl]at hfu;refine gX1 (aI k1 (aI k2 hfu)) ?_;refine(CB (er:=2) (st:= .ok 0) ⟨rfl,rfl,rfl⟩ hs2 om).mono ?_;rintro r ⟨Z3,a',e',rfl,X3,hh3,hs3⟩;have R3:=R2.Fh X3 hh3 hs3;have rr3:=A6 hs3.row;have hd3:decide (e'=0)=false:=hh3.dec;refine gX1 (aI rr3 (aI hd3 (a3N @G9 @H2 @Tryz.results38))) ?_;exact⟨_,T,seen,_,_,_,rfl,om,_,_,R3⟩
         | false=>
           rw[z0z (by simp)];rw[hfl]at hfu;refine gUd (a35N @Bx @Aj @Ak @Al @V3 @V4 @V5 @V6 @O5 @O6 @O7 @O8 @O9 @P6 @IZ @Ia @Ib @Ic @Dt @Du @Dv @Ie @Ig @Ih @Ii @Dw @Dx @Dy @Dz @EA @EB @EC @ED @Ij @EE) (aI @A4 (aI @P9 (aI @N5 (aI @N9 (aI @N6 (aI @K6 (aI @M5 (aI @K7 (aI @K8 (aI @H8 (aI @Am (aI @V1 (aI @WQ (aI @Tryz.underlying86 (aI k1 (aI k2 (aI hfu rr2))))))))))))))))) ?_;have R5:=R2.J0 (Ext.new (t:=none) S2 [str w]);have hl0:=R5.sl 5 om;have y0:I2 (v 5)≠some b:=fun e=>by have:=((R5.sl 5 om).blk e).1;have:=h.btl;omega
           rw[OM]at hl0 y0;refine G4 (lo:=Z0.n) (D4:=seen.map fun s=>[str s]) (row:=[str w]) (fun _ _ _ _=>M4) hl0 (D1 nL nL) (D8 (by simp) (by simp)) (by rw[z2z];omega) (by have:=R5.ext.n;simp at this ⊢;omega) ?_;intro v' Z7 y1 y2 y3;have ro7:=(show Z7.A7 b=S2.A7 b by rw[B8 (y2.same b (by simp;omega) y0),E9 om]).trans ro2;obtain⟨a',rfl⟩:=OL.shape y1;have R7:=R5.app (T':=T) (vs':=vs) (seen':=seen++[w]) (i:=5) (k:=0) (a:=0) (e:=0) ⟨rfl,rfl,rfl⟩ (hs2.ext (Ext.new (t:=none) S2 [str w])) om (by rw[OM];exact y2) (by show OL _ _ 1 _ (List.map _ _);rw[y7];exact y1) (by intro j hj hne;match j,hj,hne with|0,_,_=>rfl|1,_,_=>rfl|2,_,_=>rfl|3,_,_=>rfl|4,_,_=>rfl|5,_,hq=>exact absurd rfl hq) rfl R5.iv;obtain⟨k8,a8,e8,hh8,hs8⟩:=R7.sc;refine gX1 ro7 ?_;have hfi:=RC hwn;have R8:=R7.Fh (B9.refl.upd (p:=b) (cs:=[.slice ta A1.length A1.length,.int .i64 ((1:Nat):Int),.int .i64 0,.int .i64 0,str s,str T.name,v 0,v 1,v 2,.int .i64 T.low,.int .i64 T.high,c1,c2,c3,c4,c5,v 3,.int .i64 T.P8,v 4,.int .i64 T.J8,.int .i64 T.t.q,.int .i64 T.t.b,.int .i64 T.t.g,.int .i64 T.t.p,.int .i64 T.t.s,(.slice a' (seen.map (fun s=>[str s])++[[str w]]).length (seen.map (fun s=>[str s])++[[str w]]).length)]) ) (st':= .ok 1) (k':=1) (a':=0) (e':=0) ⟨rfl,rfl,rfl⟩ (hs8.K4 (B9.refl.upd _) (by rw[D5];rfl) (AU1 hwn));refine(SV hk R8 C7 hsh hF h12 hto hsl om).mono ?_;rintro r ⟨Z9,T9,st9,v9,fc9,vs9,rfl,R9,hE⟩;refine gS1 @Tryz.results38 ?_;have hse:∀ u,(seen++[w]).contains u=(U9 u (GG w tru kv)).isSome:=by
            intro u;rw[NZ];have hu:=hkv u;by_cases huw:u=w
            ·rw[z1z huw,huw];simp
            ·rw[z0z huw,<- hu];rw[z7z,PV,PV,DK,GK];exact⟨fun h=>h.elim id fun e=>absurd e huw,.inl⟩
           have hlq:(seen++[w]).length<=seen.length+1:=sI;have htx:(s.take to).drop ((A9 A1 0).2+w.length)=l.drop ((A9 A1 0).2+w.length-from'):=by
            rw[<- hl,Kz];congr 1;omega
           rw[htx]at hE;refine⟨_,T9,seen++[w],v9,fc9,vs9,rfl,hlq,?_⟩;unfold Gd at hE;cases hQ:ks.rd A1 (l.drop ((A9 A1 0).2+w.length-from')) ((A9 A1 0).2+w.length) T 1 with
           | error x=>
             rw[hQ]at hE;obtain rfl:st9= .error x:=hE;exact⟨_,_,R9⟩
           | ok p=>
             obtain⟨T2,k2⟩:=p;rw[hQ,C1]at hE;rw[C1];dsimp only at hE ⊢;by_cases hem:(A9 A1 k2).1=[]
             ·rw[z1z hem]at hE ⊢;obtain⟨rfl,rfl⟩:=hE;exact⟨rfl,hse,R9.rp⟩
             ·rw[z0z hem]at hE ⊢;obtain rfl:st9=_:=hE;exact⟨_,_,R9⟩
end
end
section
variable {a k:Nat}{cs:List Value}
def Sq {c:UInt8}:∀ {l:By},(∀ x∈l,x≠c)->I8 c l=[l]
 | [],_=>rfl
 | x::l,h=>by
   have e:I8 c (x::l)=if x=c then[]::I8 c l else match I8 c l with
    |h::t=>(x::h)::t
    | []=>[[x]]:=rfl
   rw[e,z0z (h x (IU ..)),Sq fun y hy=>h y (GH _ hy)]
def Sr {c:UInt8}:∀ {l:By}{m:Nat},(∀ x∈l.take m,x≠c)->l[m]? =some c->I8 c l=l.take m::I8 c (l.drop (m+1))
 | [],m,_,h=>by simp at h
 | x::l,0,_,h=>by
   obtain rfl:x=c:=by simpa using h
   have e:I8 x (x::l)=if x=x then[]::I8 x l else match I8 x l with
    |h::t=>(x::h)::t
    | []=>[[x]]:=rfl
   rw[e,z1z rfl];rfl
 | x::l,m+1,hn,h=>by
   have e:I8 c (x::l)=if x=c then[]::I8 c l else match I8 c l with
    |h::t=>(x::h)::t
    | []=>[[x]]:=rfl
   rw[e,z0z (hn x (IU ..)),Sr (m:=m) (fun y hy=>hn y (GH _ hy)) (by simpa using h)];rfl
def mU (s:By) (a k:Nat):Prop:=∀ i,a<=i->i<k->s[i]? ≠some 10
def mU.mem {s:By}(h:mU s a k):∀ x∈(s.drop a).take (k-a),x≠10:=by
 intro x hx e;obtain⟨i,hi⟩:=WI.1 hx;rw[List.getElem?_take]at hi;split at hi
 ·rw[List.getElem?_drop]at hi;exact h (a+i) om om (by rw[hi,e])
 ·cases hi
def mW {s:By}(h:mU s a s.length):I8 10 (s.drop a)=[(s.take s.length).drop a]:=by
 rw[Bl];refine Sq ?_;have:=h.mem
 rwa [Kx (by rw[Ei];exact AR _)]at this
def mY {s:By}(h:mU s a k) (hak:a<=k) (hk:s[k]? =some 10):I8 10 (s.drop a)=(s.take k).drop a::I8 10 (s.drop (k+1)):=by
 have e:(s.drop a)[k-a]? =some 10:=by rw[List.getElem?_drop,nZ hak];exact hk
 rw[Sr h.mem e,Kz,show a+(k-a+1)=k+1 by omega,dj]
def Pa {l:By}{at' n:Nat}{T T':Tn}{kv kv':List (By×Value)}(hn:12<=n) (h:Gg n T) (h12:T.F5.length<=12) (e:CO l at' T kv= .ok (T',kv')):Gg (n+1) T'/\T'.F5.length<=12:=by
 unfold CO at e;split at e
 ·cases e;exact⟨h.mono (Ss _),h12⟩
 ·split at e
  ·cases e
  ·rename_i ks hk;split at e
   ·cases e
   ·split at e
    ·cases e
    ·obtain⟨⟨T2,k2⟩,h1,h2⟩:=C9 e;dsimp only at h2;split at h2
     ·cases h2;exact⟨dk hk hn h h1,tH hk h12 h1⟩
     ·cases h2
section
variable {Z0 Z Z':St}{b:Nat}{T:Tn}{seen:List By}{s:By}{v:Nat->Value}{fc vs:List Value}
def Rp.atU {q:Nat}{Z1:St}(h:Rp Z0 Z b T seen s v fc vs) (hq:q<b) (hE:Ext Z Z1):Dm (Z1.upd q cs) (tnR T v fc) T:=by
 have hl:=h.btl
 have hk:ET (J5 Z (CT b v)) (J5 (Z1.upd q cs) []):=K0 hE.n fun c hc hm=>⟨by simp,by
  rw[M1 fun e=>hm (l8.2 (.inr (.inr om))),hE.row hc]⟩
 have hs:∀ i,i<6->SL (Z1.upd q cs) (szT i) (v i) (Hn T vs seen i):=fun i hi=>OL.sl (OL.Fz (OL.ext (h.sl i hi) hE) om);exact⟨v 0,v 1,v 2,fc,v 3,v 4,rfl,hs 0 om,hs 1 om,hs 2 om,(h.fx.J3 hk).J3 Pd,hs 3 om,vs,hs 4 om,h.iv.mono fun _ _ hx=>SL.J3 (SL.J3 hx hk) Pd⟩
def tP {b:Nat}(hb:b<Z.n)(hr:Z.A7 b=some (.slice none 0 0:: .int .i64 0:: .int .i64 0:: .int .i64 0::o9 s T0 (fun _=> .slice none 0 0) [str [],.int .i64 0,.int .i64 0,str [],.slice none 0 0])):
  Rp Z Z b T0 [] s (fun _=> .slice none 0 0) [str [],.int .i64 0,.int .i64 0,str [],.slice none 0 0] []:=by
 refine⟨.refl,hb,⟨_,_,hr⟩,fun i hi=>?_,fun i j c _ _ _ e=>(by cases e),⟨_,[],rfl,.inl ⟨rfl,rfl⟩,by simp,rfl⟩,trivial⟩
 match i,hi with
 |0,_=>exact OL.nil
 |1,_=>exact OL.nil
 |2,_=>exact OL.nil
 |3,_=>exact OL.nil
 |4,_=>exact OL.nil
 |5,_=>exact OL.nil
end
end
end Go.Proofs.T
namespace Go.Proofs.T
open Go Go.Ab
open Nat (reduceMul reduceEqDiff reduceAdd)
def PaQ (Z:St) (R:Except Er Tn) (r:CR):Prop:=match R with
 | .ok T=>∃ Z' cells,r=⟨false,.tuple ⟨[.agg ⟨cells⟩,.int .i64 0,.int .i64 0]⟩,Z'⟩/\Ext Z Z'/\Dm Z' cells T
 | .error (p,e)=>∃ Z',r=⟨false,.tuple ⟨[.agg ⟨z20⟩,.int .i64 (p:Nat),.int .i64 e]⟩,Z'⟩/\Ext Z Z'
def PS (Z0 Z':St) (b:Nat) (s:By) (LS:Except Er (Tn×List (By×Value))) (from' k:Nat):Prop:=∃ T seen v fc vs,seen.length<=from'/\((∃ kv,Gg (12+from') T/\T.F5.length<=12/\Rp Z0 Z' b T seen s v fc vs/\(∀ w,seen.contains w=(U9 w kv).isSome) /\
  ((from'<=k/\k<=s.length/\mU s from' k/\Fw (I8 10 (s.drop from')) from' T kv=LS)\/(from'=s.length+1/\k=s.length+1/\LS= .ok (T,kv))))\/(∃ x tv A1,Rn Z0 Z' b T seen s tv A1 (.error x) v fc vs/\LS= .error x))
def mV {Z S0 Z':St}{b:Nat}(hE:Ext Z S0) (hX:B9 b S0 Z') (hb:Z.n<=b):Ext Z Z' :=
 ⟨X0 hE.n hX.n,fun c hc=>by rw[hX.same c (z5z hc hE.n) om,hE.same c hc]⟩
def iH {Z:St}{s:By} :
  Ev (gO 20 [str s] Z) (PaQ Z (LQ s)) ⟨⟩:=by
 refine D0 Tryz.func20 rfl rfl ?_;have e4:decide ((4000:Int)<(s.length:Int))=decide (4000<s.length):=by rw[z7z,z3z,z3z];omega
 unfold LQ;cases h4:decide (4000<s.length)with
 | true=>
   rw[z1z (z6z h4)];refine gS1 (aI e4 (aI h4 (a3N @G9 @H2 @Tryz.results20))) ?_;exact⟨_,rfl,eX⟩
 | false =>
   have h5:=z9z h4;rw[z0z h5];have hs:s.length<=4000:=om;unfold DB;generalize hLS:Fw (I8 10 s) 0 T0 []=LS;refine gX1 (aI e4 (aI h4 (a5N @G9 @H2 @AX8 @AX9 @AY0))) ?_;obtain⟨S0,hS0⟩:=nm ((Z.new [str [],.slice none 0 0,.slice none 0 0,.slice none 0 0,.int .i64 0,.int .i64 0,str [],.int .i64 0,.int .i64 0,str [],.slice none 0 0,.slice none 0 0,.int .i64 0,.slice none 0 0,.int .i64 0,.int .i64 0,.int .i64 0,.int .i64 0,.int .i64 0,.int .i64 0] (some 41)).new [.slice none 0 0,.int .i64 0,.int .i64 0,.int .i64 0,str s,str [],.slice none 0 0,.slice none 0 0,.slice none 0 0,.int .i64 0,.int .i64 0,str [],.int .i64 0,.int .i64 0,str [],.slice none 0 0,.slice none 0 0,.int .i64 0,.slice none 0 0,.int .i64 0,.int .i64 0,.int .i64 0,.int .i64 0,.int .i64 0,.int .i64 0,.slice none 0 0]);have E0:Ext Z S0:=by rw[<- hS0];exact(Ext.new _ _).trans (.new _ _)
   have n0:S0.n=Z.n+2:=by rw[<- hS0];rfl
   have rz:S0.A7 Z.n=some [str [],.slice none 0 0,.slice none 0 0,.slice none 0 0,.int .i64 0,.int .i64 0,str [],.int .i64 0,.int .i64 0,str [],.slice none 0 0,.slice none 0 0,.int .i64 0,.slice none 0 0,.int .i64 0,.int .i64 0,.int .i64 0,.int .i64 0,.int .i64 0,.int .i64 0]:=by rw[<- hS0];exact cL
   have rb:S0.A7 (Z.n+1)=some [.slice none 0 0,.int .i64 0,.int .i64 0,.int .i64 0,str s,str [],.slice none 0 0,.slice none 0 0,.slice none 0 0,.int .i64 0,.int .i64 0,str [],.int .i64 0,.int .i64 0,str [],.slice none 0 0,.slice none 0 0,.int .i64 0,.slice none 0 0,.int .i64 0,.int .i64 0,.int .i64 0,.int .i64 0,.int .i64 0,.int .i64 0,.slice none 0 0]:=by rw[<- hS0];exact cL
   rw[hS0];obtain⟨b,hb⟩:=nm (Z.n+1);rw[hb]at rb ⊢;have P0:Rp S0 S0 b T0 [] s (fun _=> .slice none 0 0) [str [],.int .i64 0,.int .i64 0,str [],.slice none 0 0] []:=tP om rb
   refine V9 (fun j fr Z'=>∃ k from':Nat,j=s.length+1-k/\k<=s.length+1/\from'<=s.length+1/\fr.get 0=some (str s)/\fr.get 2=some (.pointer (some ⟨Z.n,0,none⟩))/\fr.get 5=some (.pointer (some ⟨b,0,none⟩))/\fr.get 6=some (.int .i64 (from':Nat))/\fr.get 7=some (.int .i64 (k:Nat))/\PS S0 Z' b s LS from' k)
    (fun r=>∃ T seen v fc vs fr Z',r=⟨.exit 0,fr,Z'⟩/\fr.get 0=some (str s)/\fr.get 2=some (.pointer (some ⟨Z.n,0,none⟩))/\fr.get 5=some (.pointer (some ⟨b,0,none⟩))/\seen.length<=s.length+1/\match LS with
      | .ok (T2,kv)=>T=T2/\Rp S0 Z' b T seen s v fc vs/\(∀ w,seen.contains w=(U9 w kv).isSome)
      | .error x=>∃ tv A1,Rn S0 Z' b T seen s tv A1 (.error x) v fc vs) (s.length+1) ?_ ?_ ?_
   ·exact⟨0,0,rfl,om,om,fR,fR,fR1 hb,fR,fR,T0,[],_,_,_,AR _,.inl ⟨[],⟨by simp[T0],by simp[T0],by simp[T0],by simp[T0],by simp[T0]⟩,by simp[T0],P0,fun w=>rfl,.inl ⟨AR _,y9 _,fun i h1 h2=>om,hLS⟩⟩⟩
   ·rintro j fr Z' ⟨k,from',rfl,hk,hfk,g0,g2,g5,g6,g7,T,seen,v,fc,vs,hsn,hP⟩;have el:decide ((s.length:Int)<(k:Int))=decide (s.length<k):=by rw[z7z,z3z,z3z];omega
    have ek:(k:Int)+1=((k+1:Nat):Int):=om;have eq:decide ((k:Int)=(s.length:Int))=decide (k=s.length):=by rw[z7z,z3z,z3z];omega
    rcases hP with⟨kv,hF,h12,hR,hkv,⟨AD4,hks,hno,hL⟩|⟨rfl,rfl,hL⟩⟩|⟨x,tv,A1,hR,hL⟩
    ·obtain⟨tv0,k0,ro⟩:=hR.row;obtain⟨c1,c2,c3,c4,c5,rfl⟩:=fc5 hR.fx;have ro:Z'.A7 b=some [tv0,.int .i64 k0,.int .i64 0,.int .i64 0,str s,str T.name,v 0,v 1,v 2,.int .i64 T.low,.int .i64 T.high,c1,c2,c3,c4,c5,v 3,.int .i64 T.P8,v 4,.int .i64 T.J8,.int .i64 T.t.q,.int .i64 T.t.b,.int .i64 T.t.g,.int .i64 T.t.p,.int .i64 T.t.s,v 5]:=ro;have rr:=A6 ro;have hlk:decide (s.length<k)=false:=dF;have hl:((s.take k).drop from').length=k-from':=by rw[Ei,Dh];omega
     cases hkl:decide (k=s.length)with
     | true=>
       obtain rfl:=z6z hkl;rw[mW hno]at hL;have hL:CO ((s.take s.length).drop from') from' T kv=LS:=by
        rw[<- hL,FY];cases CO ((s.take s.length).drop from') from' T kv with
        |ok p=>rfl
        |error x=>rfl
       refine gX1 (aI g0 (aI g2 (aI g5 (aI g6 (aI g7 (aI el (aI hlk (aI eq (aI hkl rr))))))))) ?_;refine(WO hR AD4 nL om (hF.fits om) h12 hkv om).mono ?_;rintro r ⟨Z9,T9,mX,v9,fc9,vs9,rfl,hn9,hM⟩;refine gX1 (aI g0 (aI g2 (aI g5 (aI g6 (aI g7 (aI ek @H6)))))) ?_;refine⟨s.length+1-(s.length+1),om,s.length+1,s.length+1,rfl,om,om,fR1 g0,fR1 g2,fR1 g5,fR,fR,T9,mX,v9,fc9,vs9,om,?_⟩;cases hQ:CO ((s.take s.length).drop from') from' T kv with
       | error x=>
         rw[hQ]at hM hL;obtain⟨tv,A1,R9⟩:=hM;exact .inr ⟨x,tv,A1,R9,hL.symm⟩
       | ok p=>
         obtain⟨T2,kv2⟩:=p;obtain⟨u1,u2⟩:=Pa (n:=12+from') om hF h12 hQ;rw[hQ]at hM hL;obtain⟨rfl,AD5,R9⟩:=hM;exact .inl ⟨kv2,u1.mono om,u2,R9,AD5,.inr ⟨rfl,rfl,hL.symm⟩⟩
     | false=>
       have BM6:=z9z hkl;obtain⟨c,hc⟩:=E8 (l:=s) (k:=k) om;have q1:=N3 hc;have q3:decide ((c.toNat:Int)=10)=decide (c=10):=Pb (n:=10) rfl;cases h10:decide (c=10)with
       | true=>
         refine gX1 (aI g0 (aI g2 (aI g5 (aI g6 (aI g7 (aI el (aI hlk (aI eq (aI hkl (aI rr (aI q1 (aI q3 (aI h10 @I4))))))))))))) ?_;refine(WO hR AD4 om om (hF.fits om) h12 hkv om).mono ?_;rintro r ⟨Z9,T9,mX,v9,fc9,vs9,rfl,hn9,hM⟩;refine gX1 (aI g0 (aI g2 (aI g5 (aI g6 (aI g7 (aI ek @H6)))))) ?_;refine⟨s.length+1-(k+1),om,k+1,k+1,rfl,om,om,fR1 g0,fR1 g2,fR1 g5,fR,fR,T9,mX,v9,fc9,vs9,om,?_⟩;rw[mY hno AD4 (by rw[hc,z6z h10]),FY,hl,show from'+(k-from'+1)=k+1 by omega]at hL;cases hQ:CO ((s.take k).drop from') from' T kv with
         | error x=>
           rw[hQ]at hM hL;obtain⟨tv,A1,R9⟩:=hM;exact .inr ⟨x,tv,A1,R9,hL.symm⟩
         | ok p=>
           obtain⟨T2,kv2⟩:=p;obtain⟨u1,u2⟩:=Pa (n:=12+from') om hF h12 hQ;rw[hQ]at hM hL;obtain⟨rfl,AD5,R9⟩:=hM;exact .inl ⟨kv2,u1.mono om,u2,R9,AD5,.inl ⟨AR _,om,fun i h1 h2=>om,hL⟩⟩
       | false=>
         refine gX1 (aI g0 (aI g2 (aI g5 (aI g6 (aI g7 (aI el (aI hlk (aI eq (aI hkl (aI rr (aI q1 (aI q3 (aI h10 (aI ek (a4N @I4 @G9 @H2 @H6))))))))))))))) ?_;refine⟨s.length+1-(k+1),om,k+1,from',rfl,om,hfk,fR1 g0,fR1 g2,fR1 g5,fR1 g6,fR,T,seen,v,_,vs,hsn,.inl ⟨kv,hF,h12,hR,hkv,.inl ⟨om,om,fun i h1 h2=>?_,hL⟩⟩⟩;by_cases hik:i=k
         ·rw[hik,hc];intro e;cases e;exact z9z h10 rfl
         ·exact hno i h1 om
    ·have hlk:decide (s.length<s.length+1)=true:=dT;refine gX1 (aI g0 (aI g2 (aI g5 (aI g6 (aI g7 (aI el (aI hlk (a3N @G9 @H2 @Q9)))))))) ?_;exact⟨T,seen,v,fc,vs,_,_,rfl,fR1 g0,fR1 g2,fR1 g5,hsn,by rw[hL];exact⟨rfl,hR,hkv⟩⟩
    ·obtain⟨kk,a,e,hh,hs3⟩:=hR.sc;have rr:=A6 hs3.row;have hd:decide (e=0)=false:=hh.dec;cases hlk:decide (s.length<k)with
     | true=>
       refine gX1 (aI g0 (aI g2 (aI g5 (aI g6 (aI g7 (aI el (aI hlk (a3N @G9 @H2 @Q9)))))))) ?_;exact⟨T,seen,v,fc,vs,_,_,rfl,fR1 g0,fR1 g2,fR1 g5,om,by rw[hL];exact⟨tv,A1,hR⟩⟩
     | false=>
       refine gX1 (aI g0 (aI g2 (aI g5 (aI g6 (aI g7 (aI el (aI hlk (aI rr (a4N @hd @G9 @H2 @Q9))))))))) ?_;exact⟨T,seen,v,fc,vs,_,_,rfl,fR1 g0,fR1 g2,fR1 g5,om,by rw[hL];exact⟨tv,A1,hR⟩⟩
   rintro r ⟨T,seen,v,fc,vs,fr,Z',rfl,g0,g2,g5,hsn,hE⟩;have BM7:six.length=6:=rfl;cases LS with
   | error x=>
     obtain⟨p,er⟩:=x;obtain⟨tv,A1,hR⟩:=hE;obtain⟨kk,a,e,c1,c2,c3,c4,c5,rfl,⟨rfl,rfl,her⟩,hd,hs3,ro⟩:=hR.cells;have rr:=A6 ro;have hd0:decide (e=0)=false:=hd;have hb9:=hR.lt;have rz9:Z'.A7 Z.n=some [str [],.slice none 0 0,.slice none 0 0,.slice none 0 0,.int .i64 0,.int .i64 0,str [],.int .i64 0,.int .i64 0,str [],.slice none 0 0,.slice none 0 0,.int .i64 0,.slice none 0 0,.int .i64 0,.int .i64 0,.int .i64 0,.int .i64 0,.int .i64 0,.int .i64 0]:=by rw[hR.ext.A7 om om];exact rz
     refine gX1 (aI g0 (aI g2 g5)) ?_
     refine F4 0 (fun i fr τ=>fr.get 0=some (str s)/\fr.get 2=some (.pointer (some ⟨Z.n,0,none⟩))/\fr.get 5=some (.pointer (some ⟨b,0,none⟩))/\τ=Z'.new (six.map str)/\fr.get 9=some (.int .i64 (i:Nat))/\fr.get 8=some (.slice (some ⟨Z'.n,0,none⟩) 6 6))
      (fun r=>∃ fr,r=⟨.exit 2,fr,Z'.new (six.map str)⟩/\fr.get 0=some (str s)/\fr.get 2=some (.pointer (some ⟨Z.n,0,none⟩))/\fr.get 5=some (.pointer (some ⟨b,0,none⟩))) ?_ ?_ ?_ ?_
     ·exact⟨fR1 g0,fR1 g2,fR1 g5,rfl,fR,fR⟩
     ·intro i fr τ hi;omega
     ·rintro fr τ ⟨g0,g2,g5,rfl,g9,g8⟩;have h06:decide ((0:Int)<6)=true:=rfl;have As3:decide ((0:Int)<((6:Nat):Int))=true:=rfl;have As4:decide (((0:Nat):Int)<((6:Nat):Int))=true:=rfl;have As5:decide (((0:Nat):Int)<6)=true:=rfl;refine gX1 (aI g0 (aI g2 (aI g5 (aI g9 (aI g8 (aI rr (aI hd0 (aI h06 (aI As5 (aI As3 As4)))))))))) ?_;exact⟨_,rfl,fR1 g0,fR1 g2,fR1 g5⟩
     rintro r ⟨fr,rfl,g0,g2,g5⟩;have e9:Ext Z (Z'.new (six.map str)):=(mV E0 hR.ext om).AG _;refine gX1 (aI g0 (aI g2 (aI g5 (aI rr (aI hd0 (aI rz9 (aI @tQ @tR))))))) ?_
     try refine dW ?_
     try(refine gSd (a35N @Bx @Aj @Ak @Al @V3 @V4 @V5 @V6 @O5 @O6 @O7 @O8 @O9 @P6 @IZ @Ia @Ib @Ic @Dt @Du @Dv @Ie @Ig @Ih @Ii @Dw @Dx @Dy @Dz @EA @EB @EC @ED @Ij @EE) (aI @Am (aI @V1 (aI @WQ (aI @Tryz.underlying86 (aI g0 (aI g2 (aI g5 (aI rr (aI hd0 (aI rz9 (a5N @tQ @tR @G9 @H2 @Tryz.results20))))))))))) ?_;try exact⟨⟩)
     exact⟨_,rfl,e9.upd om _⟩
   | ok pp=>
     obtain⟨T2,kv⟩:=pp;obtain⟨rfl,hR,hkv⟩:=hE;obtain⟨tv0,k0,ro⟩:=hR.row;obtain⟨c1,c2,c3,c4,c5,rfl⟩:=fc5 hR.fx;have hb9:=hR.lt;obtain⟨ls,OM⟩:=OL.shape (hR.sl 5 om);have OM:v 5= .slice ls seen.length seen.length:=by rw[show(Hn T vs seen 5).length=seen.length from z2z ..]at OM;exact OM
     have ro:Z'.A7 b=some [tv0,.int .i64 k0,.int .i64 0,.int .i64 0,str s,str T.name,v 0,v 1,v 2,.int .i64 T.low,.int .i64 T.high,c1,c2,c3,c4,c5,v 3,.int .i64 T.P8,v 4,.int .i64 T.J8,.int .i64 T.t.q,.int .i64 T.t.b,.int .i64 T.t.g,.int .i64 T.t.p,.int .i64 T.t.s,v 5]:=ro;rw[OM]at ro;have rr:=A6 ro;have rz9:Z'.A7 Z.n=some [str [],.slice none 0 0,.slice none 0 0,.slice none 0 0,.int .i64 0,.int .i64 0,str [],.int .i64 0,.int .i64 0,str [],.slice none 0 0,.slice none 0 0,.int .i64 0,.slice none 0 0,.int .i64 0,.int .i64 0,.int .i64 0,.int .i64 0,.int .i64 0,.int .i64 0]:=by rw[hR.ext.A7 om om];exact rz
     have ol5:=hR.sl 5 om;rw[OM]at ol5;have e9:Ext Z (Z'.new (six.map str)):=(mV E0 hR.ext om).AG _;have rr2:(Z'.new (six.map str)).row b=_:=(CQ om).trans rr;have rs2:(Z'.new (six.map str)).row Z'.n=some (six.map str):=D1 nL nL;have As6:=OL.ext ol5 (Ext.new (t:=none) Z' (six.map str));refine gX1 (aI g0 (aI g2 g5)) ?_
     refine F4 6 (fun i fr τ=>fr.get 0=some (str s)/\fr.get 2=some (.pointer (some ⟨Z.n,0,none⟩))/\fr.get 5=some (.pointer (some ⟨b,0,none⟩))/\τ=Z'.new (six.map str)/\fr.get 9=some (.int .i64 (i:Nat))/\fr.get 8=some (.slice (some ⟨Z'.n,0,none⟩) 6 6)/\((six.take i).all fun w=>(U9 w kv).isSome)=true)
      (fun r=>(∃ fr,r=⟨.exit 2,fr,Z'.new (six.map str)⟩/\fr.get 0=some (str s)/\fr.get 2=some (.pointer (some ⟨Z.n,0,none⟩))/\fr.get 5=some (.pointer (some ⟨b,0,none⟩))/\(six.all fun w=>(U9 w kv).isSome)=true)\/(∃ fr,r=⟨.ret,fr,(Z'.new (six.map str)).upd Z.n [str [],.slice none 0 0,.slice none 0 0,.slice none 0 0,.int .i64 0,.int .i64 0,str [],.int .i64 0,.int .i64 0,str [],.slice none 0 0,.slice none 0 0,.int .i64 0,.slice none 0 0,.int .i64 0,.int .i64 0,.int .i64 0,.int .i64 0,.int .i64 0,.int .i64 0]⟩/\fr.get 0=some (str s)/\fr.get 2=some (.pointer (some ⟨Z.n,0,none⟩))/\fr.get 5=some (.pointer (some ⟨b,0,none⟩))/\fr.get 3=some (.int .i64 (s.length:Nat))/\fr.get 4=some (.int .i64 12)/\(six.all fun w=>(U9 w kv).isSome)=false)) ?_ ?_ ?_ ?_
     ·exact⟨fR1 g0,fR1 g2,fR1 g5,rfl,fR,fR,rfl⟩
     ·rintro i fr τ hi ⟨g0,g2,g5,rfl,g9,g8,ha⟩;have hc:decide ((i:Int)<6)=true:=dT;have hc':decide ((i:Int)<((6:Nat):Int))=true:=dT;have hi1:Nat.blt i 6=true:=by rw[DC];exact hi
      have hi2:decide (i<6)=true:=Aq hi;obtain⟨w,hx⟩:=E8 (show i<six.length by omega);have m1:sub (six.map str) i 1=some [str w]:=N3 (by rw[List.getElem?_map,hx];rfl);have hkw:=hkv w;refine gX1 (aI g0 (aI g2 (aI g5 (aI g9 (aI g8 (aI hc (aI hc' (aI hi1 (aI hi2 (aI rr2 (aI rs2 m1))))))))))) ?_;refine(SY (seen:=seen) (w:=w) rr2 As6 om).mono ?_;rintro r rfl;cases hkn:(U9 w kv).isSome with
      | true=>
        rw[hkn]at hkw;refine gX1 (aI g0 (aI g2 (aI g5 (aI g9 (aI g8 hkw))))) ?_;refine⟨fR1 g0,fR1 g2,fR1 g5,by trivial,fR,fR1 g8,?_⟩;rw[Dj,hx,SZ,ha];simp[hkn]
      | false=>
        rw[hkn]at hkw;refine gX1 (aI g0 (aI g2 (aI g5 (aI g9 (aI g8 (aI hkw (aI rz9 (aI @tQ @tR)))))))) ?_;refine .inr ⟨_,rfl,fR1 g0,fR1 g2,fR1 g5,fR,fR,?_⟩;rw[<- dL,HA];intro h;rw[h w (W8 hx)]at hkn;cases hkn
     ·rintro fr τ ⟨g0,g2,g5,rfl,g9,g8,ha⟩;have hc:decide (((6:Nat):Int)<6)=false:=rfl;refine gX1 (aI g0 (aI g2 (aI g5 (aI g9 (aI g8 hc))))) ?_;exact .inl ⟨_,rfl,fR1 g0,fR1 g2,fR1 g5,ha⟩
     rintro r (⟨fr,rfl,g0,g2,g5,ha⟩|⟨fr,rfl,g0,g2,g5,g3,g4,ha⟩)
     ·have En:sub [tv0,Value.int .i64 k0,.int .i64 0,.int .i64 0,str s,str T.name,v 0,v 1,v 2,.int .i64 T.low,.int .i64 T.high,c1,c2,c3,c4,c5,v 3,.int .i64 T.P8,v 4,.int .i64 T.J8,.int .i64 T.t.q,.int .i64 T.t.b,.int .i64 T.t.g,.int .i64 T.t.p,.int .i64 T.t.s,.slice ls seen.length seen.length] 5 20=some (tnR T v [c1,c2,c3,c4,c5]):=rfl;have hsp:I7 [str [],.slice none 0 0,.slice none 0 0,.slice none 0 0,.int .i64 0,.int .i64 0,str [],.int .i64 0,.int .i64 0,str [],.slice none 0 0,.slice none 0 0,.int .i64 0,.slice none 0 0,.int .i64 0,.int .i64 0,.int .i64 0,.int .i64 0,.int .i64 0,.int .i64 0] 0 (G6 (.agg ⟨tnR T v [c1,c2,c3,c4,c5]⟩))=some (tnR T v [c1,c2,c3,c4,c5]):=rfl;have tS:I7 [str [],.slice none 0 0,.slice none 0 0,.slice none 0 0,.int .i64 0,.int .i64 0,str [],.int .i64 0,.int .i64 0,str [],.slice none 0 0,.slice none 0 0,.int .i64 0,.slice none 0 0,.int .i64 0,.int .i64 0,.int .i64 0,.int .i64 0,.int .i64 0,.int .i64 0] 0 (tnR T v [c1,c2,c3,c4,c5])=some (tnR T v [c1,c2,c3,c4,c5]):=rfl;have hln:(tnR T v [c1,c2,c3,c4,c5]).length=20:=rfl;have hcl:G6 (.agg ⟨tnR T v [c1,c2,c3,c4,c5]⟩)=tnR T v [c1,c2,c3,c4,c5]:=rfl;have hAt:=hR.atU (q:=Z.n) (cs:=tnR T v [c1,c2,c3,c4,c5]) om (Ext.new (t:=none) Z' (six.map str));generalize tnR T v [c1,c2,c3,c4,c5]=cs at En hsp tS hln hcl hAt;have hsf:sub cs 0 20=some cs:=D8 om om;simp(maxSteps:=8000000) (disch:=first|exact dS|fail) only[↓bD,bXn,↓bVd,↓bXd,reduceMul,reduceEqDiff,reduceAdd,Nat.reduceBEq,reduceIte,Option.isNone_none,g0,g2,g5,rr2,↓En,rz9,↓hsp,↓tS,hln,hsf,hcl,G9,H2]
      try(refine gSd (aI @Bx (aI @Aj (aI @Ak (aI @Al (aI @V3 (aI @V4 (aI @V5 (aI @V6 (aI @O5 (aI @O6 (aI @O7 (aI @O8 (aI @O9 (aI @P6 (aI @IZ (aI @Ia (aI @Ib (aI @Ic (aI @Dt (aI @Du (aI @Dv (aI @Ie (aI @Ig (aI @Ih (aI @Ii (aI @Dw (aI @Dx (aI @Dy (aI @Dz (aI @EA (aI @EB (aI @EC (aI @ED (aI @Ij (aI @EE (aI En (aI hsp tS))))))))))))))))))))))))))))))))))))) (aI @Am (aI @V1 (aI @WQ (aI @Tryz.underlying86 (aI g0 (aI g2 (aI g5 (aI rr2 (aI rz9 (aI hln (aI hsf (aI hcl (a3N @G9 @H2 @Tryz.results20))))))))))))) ?_;try exact⟨⟩)
      rw[C1,z1z ha];exact⟨_,cs,rfl,e9.upd om _,hAt⟩
     ·refine gX1 (aI g0 (aI g2 (aI g5 (aI g3 (aI g4 @Tryz.results20))))) ?_;rw[C1,z0z (by rw[ha];simp)];exact⟨_,rfl,e9.upd om _⟩
end Go.Proofs.T
namespace Go.Proofs.T
open Go Go.Ab
section
variable {a:Nat}{s l:By}
def Ne0 {α:Type}(R:Except Er α):Prop:=∀ p e,R= .error (p,e)->e≠0
def DG {α:Type}{a:α}:Ne0 (.ok a:Except Er α):=fun p e h=>by cases h
def Gu {α:Type}{p:Nat}{e:Int}(h:e≠0):Ne0 (.error (p,e):Except Er α):=fun q e' h'=>by cases h';exact h
def u6 {α β:Type}{x:Except Er α}{f:α->Except Er β}(hx:Ne0 x) (hf:∀ a,Ne0 (f a)):Ne0 (G2 x f):=by
 cases x with
 |ok a=>exact hf a
 |error pe=>obtain⟨p,e⟩:=pe;exact Gu (hx p e rfl)
def HV {α:Type}{c:Prop} [Decidable c] {x y:Except Er α}(hx:Ne0 x) (hy:Ne0 y):Ne0 (if c then x else y):=by split<;>assumption
section
variable {A1:List Tok}{k:Nat}{T:Tn}
def Gv {I3:Int}{nw:Int->Bool}:Ne0 (rdNum A1 I3 nw k):=by
 unfold rdNum rd1 Mk;split
 ·exact DG
 ·rename_i h;refine Gu ?_;split at h
  ·cases h;omega
  ·split at h
   ·split at h<;>cases h;omega
   ·cases h;omega
def cD {ws:List By}:Ne0 (Ct A1 ws k):=by
 unfold Ct rd1;split
 ·exact DG
 ·rename_i h;refine Gu ?_;split at h<;>cases h;omega
def fW:Ne0 (BZ A1 k):=by unfold BZ;exact HV DG (Gu om)
def AO6:∀ (f:Nat) (T:Tn) (k:Nat),Ne0 (Rf A1 f T k):=by
 intro f;induction f with
 |zero=>intro T k;exact DG
 | succ f ih=>
   intro T k;rw[GU];exact HV (HV (HV (Gu om) (HV (ih _ _) (Gu om))) (Gu om)) DG
def qp:∀ (f:Nat) (l:List Int) (k:Nat),Ne0 (DS A1 f l k):=by
 intro f;induction f with
 |zero=>intro l k;exact DG
 | succ f ih=>
   intro l k;rw[HO];exact HV (u6 Gv fun⟨n,k1⟩=>HV (Gu om) (ih _ _)) DG
def qq:∀ (f:Nat) (T:Tn) (k:Nat),Ne0 (Dp A1 f T k):=by
 intro f;induction f with
 |zero=>intro T k;exact DG
 | succ f ih=>
   intro T k;rw[FX];exact u6 Gv fun⟨n,k1⟩=>ih _ _
def xO:Ne0 (Ke (CE s a)):=fun p e h=>eJ It NV (by unfold CE;simp) h
def Af5 {w:By}{ks:KS}{tx:By}{fr:Nat}(hk:kS w=some ks):Ne0 (ks.rd A1 tx fr T k):=by
 by_cases h0:w=[116,101,110,100,101,114]
 ·subst h0;obtain rfl:=z8z (show some ((⟨true,fun _=>false,fun A1 _ _ T k=>Ad A1 T k⟩:KS))=some ks from hk);show Ne0 (Ad A1 T k);unfold Ad;exact HV DG (Gu om)
 by_cases h1:w=[108,111,116]
 ·subst h1;obtain rfl:=z8z (show some ((⟨false,fun T=>decide (T.G8.length=12),fun A1 _ _ T k=>JX A1 T k⟩:KS))=some ks from hk);show Ne0 (JX A1 T k);exact u6 Gv fun⟨a,k1⟩=>u6 cD fun⟨b,k2⟩=>u6 Gv fun⟨c,k3⟩=>DG
 by_cases h2:w=[99,114,105,116,101,114,105,111,110]
 ·subst h2;obtain rfl:=z8z (show some ((⟨false,fun T=>decide (T.D2.length=12),fun A1 _ _ T k=>S9 A1 T k⟩:KS))=some ks from hk);show Ne0 (S9 A1 T k);exact u6 fW fun w=>HV (Gu om) (u6 cD fun⟨b,k2⟩=>u6 Gv fun⟨c,k3⟩=>u6 Gv fun⟨d,k4⟩=>DG)
 by_cases h3:w=[114,101,113,117,105,114,101]
 ·subst h3;obtain rfl:=z8z (show some ((⟨false,fun T=>decide (T.reqs.length=24),fun A1 _ _ T k=>AY A1 T k⟩:KS))=some ks from hk);show Ne0 (AY A1 T k);exact u6 fW fun w=>u6 cD fun⟨b,k2⟩=>u6 Gv fun⟨c,k3⟩=>DG
 by_cases h4:w=[112,114,105,99,101]
 ·subst h4;obtain rfl:=z8z (show some ((⟨true,fun _=>false,fun A1 _ _ T k=>Ep A1 T k⟩:KS))=some ks from hk);show Ne0 (Ep A1 T k);exact u6 Gv fun⟨a,k1⟩=>u6 Gv fun⟨c,k3⟩=>DG
 by_cases h5:w=[102,111,114,109,117,108,97]
 ·subst h5;obtain rfl:=z8z (show some ((⟨true,fun _=>false,fun A1 tx fr T k=>AZ A1 tx fr T k⟩:KS))=some ks from hk);show Ne0 (AZ A1 tx fr T k);exact u6 xO fun a=>DG
 by_cases h6:w=[116,105,101]
 ·subst h6;obtain rfl:=z8z (show some ((⟨true,fun _=>false,fun A1 _ _ T k=>HE A1 T k⟩:KS))=some ks from hk);show Ne0 (HE A1 T k);exact AO6 _ _ _
 by_cases h7:w=[109,111,115,116]
 ·subst h7;obtain rfl:=z8z (show some ((⟨true,fun _=>false,fun A1 _ _ T k=>Hl A1 T k⟩:KS))=some ks from hk);show Ne0 (Hl A1 T k);exact u6 Gv fun⟨a,k1⟩=>DG
 by_cases h8:w=[99,111,109,98,111]
 ·subst h8;obtain rfl:=z8z (show some ((⟨false,fun T=>decide (T.D6.length=12),fun A1 _ _ T k=>DA A1 T k⟩:KS))=some ks from hk);show Ne0 (DA A1 T k);exact u6 (qp _ _ _) fun⟨a,k1⟩=>DG
 by_cases h9:w=[98,117,100,103,101,116]
 ·subst h9;obtain rfl:=z8z (show some ((⟨true,fun _=>false,fun A1 _ _ T k=>Cg A1 T k⟩:KS))=some ks from hk);show Ne0 (Cg A1 T k);exact u6 Gv fun⟨a,k1⟩=>DG
 by_cases h10:w=[116,105,109,101,115]
 ·subst h10;obtain rfl:=z8z (show some ((⟨true,fun _=>false,fun A1 _ _ T k=>DR A1 T k⟩:KS))=some ks from hk);show Ne0 (DR A1 T k);exact qq _ _ _
 unfold kS at hk;simp only[z0z h0,z0z h1,z0z h2,z0z h3,z0z h4,z0z h5,z0z h6,z0z h7,z0z h8,z0z h9,z0z h10]at hk;cases hk
def xP {kv:List (By×Value)}:Ne0 (CO l a T kv):=by
 unfold CO;refine HV DG ?_;split
 ·exact Gu om
 ·rename_i ks hk;exact HV (Gu om) (HV (Gu om) (u6 (Af5 hk) fun⟨T',k⟩=>HV DG (Gu om)))
def Yc:∀ (ls:List By) (a:Nat) (T:Tn) (kv:List (By×Value)),Ne0 (Fw ls a T kv)
 | [],_,_,_=>DG
 | l::ls,a,T,kv=>by
   rw[FY];exact u6 xP fun⟨T',kv'⟩=>Yc ls _ _ _
def qs:Ne0 (DB s):=by
 unfold DB;exact u6 (Yc _ _ _ _) fun⟨T,kv⟩=>HV DG (Gu om)
def cE (hl:l.length<10000000):Pl l a:=⟨OH hl,fun n=>MZ (by rw[Ei];omega)⟩
end
end
end Go.Proofs.T
