/- The law on blanks: its loops. -/
import Derived.Test.YtbcanmagihejhaaGreatDoorPD
import Derived.Test.YtbcanmagihejhaaGreatDoorWB
set_option linter.unusedSimpArgs false
set_option linter.unusedVariables false
namespace Go.Proofs.T
open Go Go.Ab
open Nat (reduceMul reduceEqDiff reduceAdd)
set_option maxRecDepth 100000
def LinesAt (s:By) (k frm:Nat) (done:List By):Prop:=∃ cur,s.take k=under done++cur/\(∀ l∈done,(10:UInt8)∉l)/\(10:UInt8)∉cur/\frm=(under done).length/\k<=s.length
theorem lines_zero {s:By}:LinesAt s 0 0 []:=⟨[],by simp [under],(fun l h=>by cases h),by simp,rfl,om⟩
theorem lines_next {s:By}{done:List By}{k frm:Nat}{b:UInt8}(h:LinesAt s k frm done) (hb:s[k]? =some b) (hne:b≠10):LinesAt s (k+1) frm done:=by
 obtain ⟨cur,h1,h2,h3,h4,h6⟩:=h
 have hk:=(List.getElem?_eq_some_iff.1 hb).1
 refine ⟨cur++[b],by rw [take_snoc hb,h1,List.append_assoc],h2,?_,h4,hk⟩
 intro hm
 rcases List.mem_append.1 hm with hm|hm
 ·exact h3 hm
 ·exact hne (List.mem_singleton.1 hm).symm
theorem under_ge:∀ ls:List By,ls.length<=(under ls).length:=by
 intro ls
 induction ls with
 | nil=>simp
 | cons l ls ih=>rw [under_cons,List.length_append,List.length_cons,List.length_cons];omega
theorem lines_le {s:By}{done:List By}{k frm:Nat}(h:LinesAt s k frm done):done.length<=k/\frm<=k:=by
 obtain ⟨cur,h1,h2,h3,h4,h6⟩:=h
 have b:=congrArg List.length h1
 rw [List.length_take,List.length_append] at b
 have:=under_ge done
 omega
theorem lines_end {s:By}{done:List By}{k frm:Nat}(h:LinesAt s k frm done) (hb:s[k]? =some 10) :
  ∃ cur:By,frm<=k+1/\k+1<=s.length/\sub s frm (k+1-frm)=some (cur++[10])/\LinesAt s (k+1) (k+1) (done++[cur]):=by
 obtain ⟨cur,h1,h2,h3,h4,h6⟩:=h
 have hk:=(List.getElem?_eq_some_iff.1 hb).1
 have e1:s.take (k+1)=under done++(cur++[10]):=by rw [take_snoc hb,h1,List.append_assoc]
 have el:(under done).length+(cur.length+1)=k+1:=by
  have:=congrArg List.length e1
  rw [List.length_take,List.length_append,List.length_append] at this
  simp only [List.length_cons,List.length_nil] at this
  omega
 have e2:under (done++[cur])=under done++(cur++[10]):=by unfold under;simp
 refine ⟨cur,om,hk,?_,[],by rw [List.append_nil,e2];exact e1,?_,by simp,?_,hk⟩
 ·rw [sub_of om]
  refine congrArg some ?_
  have e3:(s.drop frm).take (k+1-frm)=(s.take (k+1)).drop frm:=(List.drop_take ..).symm
  rw [e3,e1,h4,List.drop_left]
 ·intro l hl
  rcases List.mem_append.1 hl with hl|hl
  ·exact h2 l hl
  ·rw [List.mem_singleton.1 hl];exact h3
 ·rw [e2,List.length_append,List.length_append];simp only [List.length_cons,List.length_nil];omega
theorem lines_fin {ls done:List By}{k frm:Nat}(h:LinesAt (under ls) k frm done) (hk:k=(under ls).length) (hl:∀ l∈ls,(10:UInt8)∉l):done=ls:=by
 obtain ⟨cur,h1,h2,h3,h4,h6⟩:=h
 rw [hk,List.take_length] at h1
 have a:=under_split ls [] hl
 have b:=under_split done cur h2
 rw [List.append_nil,h1,b] at a
 have c:splitB 10 cur=[cur]:=split_one h3
 rw [c,show splitB 10 ([]:By)=[[]] from rfl] at a
 exact List.append_inj_left' a rfl
def row4 (B:Nat->Nat):List Value:=[.int .u8 (B 0:Nat),.int .u8 (B 1:Nat),.int .u8 (B 2:Nat),.int .u8 (B 3:Nat)]
theorem row4_at {B:Nat->Nat}{j:Nat}(h:j<4):sub (row4 B) j 1=some [.int .u8 (B j:Nat)]:=by
 match j,h with
 | 0,_=>rfl
 | 1,_=>rfl
 | 2,_=>rfl
 | 3,_=>rfl
def blF (B:Nat->Nat) (k:Nat):Nat:=B (k % 4) % 3
theorem blF_le {B:Nat->Nat}(k:Nat):blF B k<=2:=by unfold blF;omega
theorem ia_bl {b off i:Nat}:indexAddrV Tryz.prog 65 (.pointer (some ⟨b,off,none⟩)) i=bb (Nat.blt i 4) (some (.pointer (some ⟨b,off+i*1,none⟩))):=by kernel_rfl
def cdThen:Code->Code
 | .cond _ a _=>a
 | c=>c
theorem cd_then {c:Operand}{a b:Code}:cdThen (.cond c a b)=a:=rfl
noncomputable def bkC:Code:=cdAt [1,1,1,1,1,1,1,0,1,2,3] ((Tryz.f8).body.getD .skip)
noncomputable def bkL1:Code:=cdAt [0,1,2,3] (cdThen (cdAt [1,0,2,1,1,0,1] bkC))
noncomputable def bkL2:Code:=cdAt [1,0,2,1,1,1,1,2,3] bkC
section
variable {a2 a4 a7 a8 a9 a11 a12 a13:Value} {fr0:Fr} {τ0:St}
structure Kp9 (fr:Fr) (a2 a4 a7 a8 a9 a11 a12 a13:Value):Prop where
 g2:fr.get 2=some a2
 g4:fr.get 4=some a4
 g7:fr.get 7=some a7
 g8:fr.get 8=some a8
 g9:fr.get 9=some a9
 g11:fr.get 11=some a11
 g12:fr.get 12=some a12
 g13:fr.get 13=some a13
set_option maxHeartbeats 8000000 in
theorem bl_blank {w:By}{m:Nat}(hw:w.length<=100000) (hm:m<=2) (hK:Kp9 fr0 a2 a4 a7 a8 a9 a11 a12 a13) (g10:fr0.get 10=some (str w)) (g14:fr0.get 14=some (.int .i64 ((m+1:Nat)))) (g15:fr0.get 15=some (.int .i64 1)) :
  Ev (lim Tryz.prog HS none (.loop bkL1) fr0 τ0) (fun r=>∃ fr,r=⟨.exit 2,fr,τ0⟩/\Kp9 fr a2 a4 a7 a8 a9 a11 a12 a13/\fr.get 14=some (.int .i64 ((m+1:Nat)))/\fr.get 10=some (str (w++List.replicate m 32))) ⟨⟩:=by
 refine ev_count m (fun k fr τ=>τ=τ0/\Kp9 fr a2 a4 a7 a8 a9 a11 a12 a13/\fr.get 14=some (.int .i64 ((m+1:Nat)))/\fr.get 15=some (.int .i64 ((k+1:Nat)))/\fr.get 10=some (str (w++List.replicate k 32)))
  (fun r=>∃ fr,r=⟨.exit 2,fr,τ0⟩/\Kp9 fr a2 a4 a7 a8 a9 a11 a12 a13/\fr.get 14=some (.int .i64 ((m+1:Nat)))/\fr.get 10=some (str (w++List.replicate m 32))) ?_ ?_ ?_ (fun r h=>h)
 ·exact ⟨rfl,hK,g14,g15,by rw [List.replicate_zero,List.append_nil];exact g10⟩
 ·rintro k fr τ hk ⟨rfl,⟨g2,g4,g7,g8,g9,g11,g12,g13⟩,g14,g15,g10⟩
  have hc:decide (k+1<m+1)=true:=lt_true om
  have hl:(w++List.replicate k 32).length<=100010:=by rw [List.length_append,List.length_replicate];omega
  have e:w++List.replicate k 32++[32]=w++List.replicate (k+1) 32:=by rw [List.append_assoc,List.replicate_succ']
  simp only [bkL1,bkC,Tryz.f8,gd_some,cd_nil,cd_0,cd_1,cd_2,cd_3,cd_then]
  generalize hW:w++List.replicate k 32=W at *
  refine gU1 (aI @splice_succ (aI @bunAP (aI @g14 (aI @g15 (aI @g10 @hc))))) ?_
  exact ⟨by trivial,⟨fR1 g2,fR1 g4,fR1 g7,fR1 g8,fR1 g9,fR1 g11,fR1 g12,fR1 g13⟩,fR1 g14,fR,by rw [<- e] <;> exact fR⟩
 ·rintro fr τ ⟨rfl,⟨g2,g4,g7,g8,g9,g11,g12,g13⟩,g14,g15,g10⟩
  simp only [bkL1,bkC,Tryz.f8,gd_some,cd_nil,cd_0,cd_1,cd_2,cd_3,cd_then]
  refine gU1 (aI @splice_succ (aI @bunAP (aI @g14 (aI @g15 @lt_self)))) ?_
  exact ⟨_,rfl,⟨fR1 g2,fR1 g4,fR1 g7,fR1 g8,fR1 g9,fR1 g11,fR1 g12,fR1 g13⟩,fR1 g14,fR1 g10⟩
set_option maxHeartbeats 8000000 in
theorem bl_byte {w s:By}{m k:Nat}{b:UInt8}(hw:w.length<=100000) (hm:m<=2) (hs:s.length<=100000) (hk:k<s.length) (hb:sub s k 1=some [b]) (hK:Kp9 fr0 a2 a4 a7 a8 (str s) a11 a12 (.int .i64 (k:Nat))) (g10:fr0.get 10=some (str w)) (g14:fr0.get 14=some (.int .i64 ((m+1:Nat)))) (g16:fr0.get 16=some (.int .i64 0)) :
  Ev (lim Tryz.prog HS none (.loop bkL2) fr0 τ0) (fun r=>∃ fr,r=⟨.exit 4,fr,τ0⟩/\Kp9 fr a2 a4 a7 a8 (str s) a11 a12 (.int .i64 (k:Nat))/\fr.get 10=some (str (w++List.replicate (m+1) b))) ⟨⟩:=by
 refine ev_count (m+1) (fun j fr τ=>τ=τ0/\Kp9 fr a2 a4 a7 a8 (str s) a11 a12 (.int .i64 (k:Nat))/\fr.get 14=some (.int .i64 ((m+1:Nat)))/\fr.get 16=some (.int .i64 (j:Nat))/\fr.get 10=some (str (w++List.replicate j b)))
  (fun r=>∃ fr,r=⟨.exit 4,fr,τ0⟩/\Kp9 fr a2 a4 a7 a8 (str s) a11 a12 (.int .i64 (k:Nat))/\fr.get 10=some (str (w++List.replicate (m+1) b))) ?_ ?_ ?_ (fun r h=>h)
 ·exact ⟨rfl,hK,g14,g16,by rw [List.replicate_zero,List.append_nil];exact g10⟩
 ·rintro j fr τ hj ⟨rfl,⟨g2,g4,g7,g8,g9,g11,g12,g13⟩,g14,g16,g10⟩
  have hc:=lt_true hj
  have hl:(w++List.replicate j b).length<=100010:=by rw [List.length_append,List.length_replicate];omega
  have e:w++List.replicate j b++[b]=w++List.replicate (j+1) b:=by rw [List.append_assoc,List.replicate_succ']
  have e1:(k:Int)+1=((k+1:Nat):Int):=om
  have e2:k+1-k=1:=om
  simp only [bkL2,bkC,Tryz.f8,gd_some,cd_nil,cd_0,cd_1,cd_2,cd_3]
  generalize hW:w++List.replicate j b=W at *
  refine gU1 (aI @splice_succ (aI @bunAP (aI @g14 (aI @g16 (aI @g10 (aI @g9 (aI @g13 (aI @hc (aI @e1 (aI @e2 @hb)))))))))) ?_
  exact ⟨by trivial,⟨fR1 g2,fR1 g4,fR1 g7,fR1 g8,fR1 g9,fR1 g11,fR1 g12,fR1 g13⟩,fR1 g14,fR,by rw [<- e] <;> exact fR⟩
 ·rintro fr τ ⟨rfl,⟨g2,g4,g7,g8,g9,g11,g12,g13⟩,g14,g16,g10⟩
  simp only [bkL2,bkC,Tryz.f8,gd_some,cd_nil,cd_0,cd_1,cd_2,cd_3]
  refine gU1 (aI @splice_succ (aI @bunAP (aI @g14 (aI @g16 @lt_self)))) ?_
  exact ⟨_,rfl,⟨fR1 g2,fR1 g4,fR1 g7,fR1 g8,fR1 g9,fR1 g11,fR1 g12,fR1 g13⟩,fR1 g10⟩
end
end Go.Proofs.T
namespace Go.Proofs.T
open Go Go.Ab
open Nat (reduceMul reduceEqDiff reduceAdd)
set_option maxRecDepth 100000
theorem sp_of {b:UInt8}:(b=32/\decide ((b.toNat:Int)=32)=true)\/(b≠32/\decide ((b.toNat:Int)=32)=false):=by
 by_cases h:b=32
 ·subst h;exact .inl ⟨rfl,rfl⟩
 ·refine .inr ⟨h,decide_eq_false fun e=>h ?_⟩
  have:b.toNat=32:=om
  exact UInt8.toNat_inj.1 this
theorem wide_take {bl:Nat->Nat}{s:By}{k:Nat}{b:UInt8}(h:s[k]? =some b):wideF bl (s.take (k+1)) 0=wideF bl (s.take k) 0++wideB (bl k) b:=by
 have hk:=(List.getElem?_eq_some_iff.1 h).1
 rw [take_snoc h,wide_snoc,Nat.zero_add,List.length_take,Nat.min_eq_left om]
theorem wideB_le {m:Nat}{b:UInt8}(h:m<=2):(wideB m b).length<=5:=by
 unfold wideB
 split
 ·rw [List.length_replicate];omega
 ·split
  ·rw [List.length_append,List.length_replicate,List.length_replicate];omega
  ·simp
theorem wide_le {bl:Nat->Nat}(hb:∀ k,bl k<=2):∀ (s:By) (k:Nat),(wideF bl s k).length<=5*s.length:=by
 intro s
 induction s with
 | nil=>intro k;simp [wideF]
 | cons c s ih =>
   intro k
   have h1:=ih (k+1)
   have h2:=wideB_le (b:=c) (hb k)
   show (wideB (bl k) c++wideF bl s (k+1)).length<=_
   rw [List.length_append,List.length_cons];omega
set_option maxHeartbeats 16000000 in
theorem blanks_loop {ls:List By}{B:Nat->Nat}{bb:Nat}{a2 a7 a8:Value}{fr0:Fr}{τ0:St}(hB:∀ j,B j<256) (hs:(under ls).length<=4000) (hls:∀ l∈ls,(10:UInt8)∉l) (hbb:τ0.orow bb=some (row4 B)) (hbn:bb<τ0.n)
  (hK:Kp9 fr0 a2 (.pointer (some ⟨bb,0,none⟩)) a7 a8 (str (under ls)) (.slice none 0 0) (.int .i64 0) (.int .i64 0)) (g10:fr0.get 10=some (str [])) :
  Ev (lim Tryz.prog HS none (.loop bkC) fr0 τ0) (fun r=>∃ fr τ v,r=⟨.exit 0,fr,τ⟩/\Ext τ0 τ/\OStrs τ0.n τ v (ls.map fun l=>l++[10])/\fr.get 2=some a2/\fr.get 7=some a7/\fr.get 8=some a8/\fr.get 10=some (str (wideF (blF B) (under ls) 0))/\fr.get 11=some v) ⟨⟩:=by
 obtain ⟨s,hss⟩:∃ s,under ls=s:=⟨_,rfl⟩
 rw [hss] at hs hK ⊢
 obtain ⟨g2,g4,g7,g8,g9,g11,g12,g13⟩:=hK
 refine ev_count s.length (fun k fr τ=>Ext τ0 τ/\∃ (v:Value) (frm:Nat) (done:List By),Kp9 fr a2 (.pointer (some ⟨bb,0,none⟩)) a7 a8 (str s) v (.int .i64 (frm:Nat)) (.int .i64 (k:Nat))/\fr.get 10=some (str (wideF (blF B) (s.take k) 0))/\OStrs τ0.n τ v (done.map fun l=>l++[10])/\LinesAt s k frm done)
  (fun r=>∃ fr τ v,r=⟨.exit 0,fr,τ⟩/\Ext τ0 τ/\OStrs τ0.n τ v (ls.map fun l=>l++[10])/\fr.get 2=some a2/\fr.get 7=some a7/\fr.get 8=some a8/\fr.get 10=some (str (wideF (blF B) s 0))/\fr.get 11=some v) ?_ ?_ ?_ (fun r h=>h)
 ·exact ⟨.refl _,.slice none 0 0,0,[],⟨g2,g4,g7,g8,g9,g11,g12,g13⟩,g10,OL.nil,lines_zero⟩
 ·clear g2 g4 g7 g8 g9 g10 g11 g12 g13 fr0
  rintro k fr τ hk ⟨hE,v,frm,done,⟨g2,g4,g7,g8,g9,g11,g12,g13⟩,g10,ho,hL⟩
  have hc:=lt_true hk
  obtain ⟨b,hb⟩:=at_some hk
  have hs1:=sub_at hb
  have hwt:=wide_take (bl:=blF B) hb
  have hwl:=wide_le (bl:=blF B) (fun k=>blF_le k) (s.take k) 0
  rw [List.length_take] at hwl
  have hbr:=row_of (show τ.orow bb=some (row4 B) by rw [hE.orow hbn];exact hbb)
  have h4:=row4_at (B:=B) (j:=k % 4) (Nat.mod_lt _ om)
  have hm4:(k:Int).tmod 4=((k % 4:Nat):Int):=rfl
  have hlt4:decide (k % 4<4)=true:=decide_eq_true (Nat.mod_lt _ om)
  have hB4:=hB (k % 4)
  have hm3:((B (k % 4):Nat):Int).tmod 3=((B (k % 4) % 3:Nat):Int):=rfl
  have hw8:IntKind.u8.wrap ((B (k % 4) % 3:Nat):Int)=((B (k % 4) % 3:Nat):Int):=wrap8_in om om
  have hw64:IntKind.i64.wrap ((B (k % 4) % 3:Nat):Int)=((B (k % 4) % 3:Nat):Int):=wrap64_in om om
  have hm1:(1:Int)+((B (k % 4) % 3:Nat):Int)=((B (k % 4) % 3+1:Nat):Int):=om
  simp only [bkC,Tryz.f8,gd_some,cd_nil,cd_0,cd_1,cd_2,cd_3]
  generalize hW:wideF (blF B) (s.take k) 0=W at *
  obtain ⟨m,hm⟩:∃ m,B (k % 4) % 3=m:=⟨_,rfl⟩
  have hm2:m<=2:=om
  have hbl:blF B k=m:=by unfold blF;exact hm
  rw [hm] at hm3 hw8 hw64 hm1
  rw [hbl] at hwt
  have e1:(k:Int)+1=((k+1:Nat):Int):=om
  rcases sp_of (b:=b) with ⟨rfl,h32⟩|⟨hne,h32⟩
  ·have h10:decide (((32:UInt8).toNat:Int)=10)=false:=rfl
   refine gU1 (aI @splice_succ (aI @bunAP (aI @g2 (aI @g4 (aI @g7 (aI @g8 (aI @g9 (aI @g10 (aI @g11 (aI @g12 (aI @g13 (aI @hc (aI @hs1 (aI @oneB_one (aI @h32 (aI @h10 (aI @hm4 (aI @hlt4 (aI @ia_bl (aI @hbr (aI @h4 (aI @hm3 (aI @hw8 (aI @hw64 (aI @hm1 (aI @yu_t @yu_f)))))))))))))))))))))))))) ?_
   refine (bl_byte (s:=s) (w:=W) (m:=m) (k:=k) (b:=32) om hm2 om hk hs1 ⟨fR1 g2,fR1 g4,fR1 g7,fR1 g8,fR1 g9,fR1 g11,fR1 g12,fR1 g13⟩ (fR1 g10) (fR) (fR)).mono ?_
   rintro r ⟨fr1,rfl,⟨k2,k4,k7,k8,k9,k11,k12,k13⟩,k10⟩
   refine gU1 (aI @splice_succ (aI @bunAP @k13)) ?_
   exact ⟨hE,v,frm,done,⟨fR1 k2,fR1 k4,fR1 k7,fR1 k8,fR1 k9,fR1 k11,fR1 k12,fR1 e1⟩,by rw [hwt];exact fR1 k10,ho,lines_next hL hb (by decide)⟩
  ·rcases ten_of (b:=b) with ⟨rfl,h10⟩|⟨hne10,h10⟩
   ·obtain ⟨cur,c1,c2,c3,c4⟩:=lines_end hL hb
    obtain ⟨l1,l2⟩:=lines_le hL
    refine gU1 (aI @splice_succ (aI @ap22 (aI @ap28 (aI @ap29 (aI @ap30 (aI @ap33 (aI @ap37 (aI @ap43 (aI @ap97 (aI @ap202 (aI @g2 (aI @g4 (aI @g7 (aI @g8 (aI @g9 (aI @g10 (aI @g11 (aI @g12 (aI @g13 (aI @hc (aI @hs1 (aI @oneB_one (aI @h32 (aI @h10 (aI @hm4 (aI @hlt4 (aI @ia_bl (aI @hbr (aI @h4 (aI @hm3 (aI @hw8 (aI @hw64 (aI @hm1 (aI @yu_t @yu_f)))))))))))))))))))))))))))))))))) ?_
    refine (bl_blank (w:=W) (m:=m) om hm2 ⟨fR1 g2,fR1 g4,fR1 g7,fR1 g8,fR1 g9,fR1 g11,fR1 g12,fR1 g13⟩ (fR1 g10) (fR) (fR)).mono ?_
    rintro r ⟨fr1,rfl,⟨k2,k4,k7,k8,k9,k11,k12,k13⟩,k14,k10⟩
    refine gU1 (aI @splice_succ (aI @ap22 (aI @ap28 (aI @ap29 (aI @ap30 (aI @ap33 (aI @ap37 (aI @ap43 (aI @ap97 (aI @ap202 (aI @k9 (aI @k11 (aI @k12 (aI @k13 (aI @e1 @c3))))))))))))))) ?_
    refine ev_push (s:=cur++[10]) (fun _ _ _ _=>ap36) ho hE (.refl _) (Nat.le_refl _) hE.n (by rw [List.length_map];omega) ?_
    rintro v' Z3 ho3 hE3 hn3 -
    refine gU1 (aI @splice_succ (aI @ap22 (aI @ap28 (aI @ap29 (aI @ap30 (aI @ap33 (aI @ap37 (aI @ap43 (aI @ap97 (aI @ap202 (aI @k13 @e1))))))))))) ?_
    have hWl:(W++List.replicate m 32).length<=100000:=by rw [List.length_append,List.length_replicate];omega
    refine (bl_byte (s:=s) (w:=W++List.replicate m 32) (m:=m) (k:=k) (b:=10) hWl hm2 om hk hs1 ⟨fR1 k2,fR1 k4,fR1 k7,fR1 k8,fR1 k9,fR,fR,fR1 k13⟩ (fR1 k10) (fR1 k14) (fR)).mono ?_
    rintro r ⟨fr2,rfl,⟨j2,j4,j7,j8,j9,j11,j12,j13⟩,j10⟩
    refine gU1 (aI @splice_succ (aI @bunAP @j13)) ?_
    refine ⟨hE3,v',k+1,done++[cur],⟨fR1 j2,fR1 j4,fR1 j7,fR1 j8,fR1 j9,fR1 j11,fR1 j12,fR1 e1⟩,?_,?_,c4⟩
    ·rw [hwt,show wideB m 10=List.replicate m 32++List.replicate (m+1) 10 from rfl,<- List.append_assoc];exact fR1 j10
    ·rw [List.map_append];exact ho3
   ·have hwb:wideB m b=List.replicate (0+1) b:=by unfold wideB;rw [if_neg hne,if_neg hne10];rfl
    rw [hwb] at hwt
    refine gU1 (aI @splice_succ (aI @bunAP (aI @g2 (aI @g4 (aI @g7 (aI @g8 (aI @g9 (aI @g10 (aI @g11 (aI @g12 (aI @g13 (aI @hc (aI @hs1 (aI @oneB_one (aI @h32 (aI @h10 (aI @yu_t @yu_f))))))))))))))))) ?_
    refine (bl_byte (s:=s) (w:=W) (m:=0) (k:=k) (b:=b) om om om hk hs1 ⟨fR1 g2,fR1 g4,fR1 g7,fR1 g8,fR1 g9,fR1 g11,fR1 g12,fR1 g13⟩ (fR1 g10) (fR) (fR)).mono ?_
    rintro r ⟨fr1,rfl,⟨k2,k4,k7,k8,k9,k11,k12,k13⟩,k10⟩
    refine gU1 (aI @splice_succ (aI @bunAP @k13)) ?_
    exact ⟨hE,v,frm,done,⟨fR1 k2,fR1 k4,fR1 k7,fR1 k8,fR1 k9,fR1 k11,fR1 k12,fR1 e1⟩,by rw [hwt];exact fR1 k10,ho,lines_next hL hb hne10⟩
 ·clear g2 g4 g7 g8 g9 g10 g11 g12 g13 fr0
  rintro fr τ ⟨hE,v,frm,done,⟨g2,g4,g7,g8,g9,g11,g12,g13⟩,g10,ho,hL⟩
  simp only [bkC,Tryz.f8,gd_some,cd_nil,cd_0,cd_1,cd_2,cd_3]
  refine gU1 (aI @splice_succ (aI @bunAP (aI @g9 (aI @g13 @lt_self)))) ?_
  rw [List.take_length] at g10
  subst hss
  have hd:=lines_fin hL rfl hls
  rw [hd] at ho
  exact ⟨_,_,v,rfl,hE,ho,fR1 g2,fR1 g7,fR1 g8,fR1 g10,fR1 g11⟩
end Go.Proofs.T
namespace Go.Proofs.T
open Go Go.Ab
open Nat (reduceMul reduceEqDiff reduceAdd)
set_option maxRecDepth 100000
noncomputable def tnC:Code:=cdAt [1,1,1,1,1,1,1,1,1,1,1,0,1,2,3] ((Tryz.f8).body.getD .skip)
theorem flat_take {L:List By}{k:Nat}{x:By}(h:L[k]? =some x):(L.take (k+1)).flatten=(L.take k).flatten++x:=by
 rw [List.take_add_one,h];simp
theorem flat_take_le (L:List By) (k:Nat):(L.take k).flatten.length<=L.flatten.length:=by
 have:=congrArg List.length (congrArg List.flatten (List.take_append_drop k L))
 rw [List.flatten_append,List.length_append] at this
 omega
set_option maxHeartbeats 8000000 in
theorem turn_loop {L:List By}{n:Nat}{a7 a8 a17 a18 a19 v:Value}{fr0:Fr}{τ0:St}(hn:n<L.length) (hLl:L.length<=4000) (hLf:L.flatten.length<=100000) (hv:Strs τ0 v L)
  (g7:fr0.get 7=some a7) (g8:fr0.get 8=some a8) (g17:fr0.get 17=some a17) (g18:fr0.get 18=some a18) (g19:fr0.get 19=some a19) (g11:fr0.get 11=some v) (g20:fr0.get 20=some (.int .i64 (n:Nat))) (g21:fr0.get 21=some (str [])) (g22:fr0.get 22=some (.int .i64 0)) :
  Ev (lim Tryz.prog HS none (.loop tnC) fr0 τ0) (fun r=>∃ fr,r=⟨.exit 6,fr,τ0⟩/\fr.get 7=some a7/\fr.get 8=some a8/\fr.get 17=some a17/\fr.get 18=some a18/\fr.get 19=some a19/\fr.get 21=some (str (rot n L).flatten)) ⟨⟩:=by
 obtain ⟨a,c,b,off,cells,rfl,v1,v2⟩:=hv.use
 try rw [List.length_map] at *
 have hRl:=rot_len n L
 have hRf:(rot n L).flatten.length<=100000:=by
  have e:(rot n L).flatten.length=L.flatten.length:=(rot_perm n L).flatten.length_eq
  omega
 refine ev_count L.length (fun k fr τ=>τ=τ0/\fr.get 7=some a7/\fr.get 8=some a8/\fr.get 17=some a17/\fr.get 18=some a18/\fr.get 19=some a19/\fr.get 11=some (.slice a L.length c)/\fr.get 20=some (.int .i64 (n:Nat))/\fr.get 21=some (str ((rot n L).take k).flatten)/\fr.get 22=some (.int .i64 (k:Nat)))
  (fun r=>∃ fr,r=⟨.exit 6,fr,τ0⟩/\fr.get 7=some a7/\fr.get 8=some a8/\fr.get 17=some a17/\fr.get 18=some a18/\fr.get 19=some a19/\fr.get 21=some (str (rot n L).flatten)) ?_ ?_ ?_ (fun r h=>h)
 ·exact ⟨rfl,g7,g8,g17,g18,g19,g11,g20,g21,g22⟩
 ·clear g7 g8 g17 g18 g19 g11 g20 g21 g22 fr0
  rintro k fr τ hk ⟨rfl,g7,g8,g17,g18,g19,g11,g20,g21,g22⟩
  have hc:=lt_true hk
  obtain ⟨sp,rfl,v3,v4⟩:=v1 om
  have hlt:(k+n) % L.length<L.length:=Nat.mod_lt _ om
  obtain ⟨x,hx⟩:=at_some hlt
  have hrx:(rot n L)[k]? =some x:=by rw [rot_at hn hk];exact hx
  have hsx:=v2 _ x hx
  have hci:decide ((k+n) % L.length<L.length)=true:=lt_true hlt
  have e1:(k:Int)+(n:Int)=((k+n:Nat):Int):=om
  have e2:((k+n:Nat):Int).tmod ((L.length:Nat):Int)=(((k+n) % L.length:Nat):Int):=rfl
  have e3:=flat_take hrx
  have l1:=flat_take_le (rot n L) k
  have l2:=flat_take_le (rot n L) (k+1)
  rw [e3,List.length_append] at l2
  generalize hW:((rot n L).take k).flatten=W at *
  simp only [tnC,Tryz.f8,gd_some,cd_nil,cd_0,cd_1,cd_2,cd_3]
  refine gU1 (aI @splice_succ (aI @bunAP (aI @g11 (aI @g20 (aI @g21 (aI @g22 (aI @hc (aI @e1 (aI @e2 (aI @v4 (aI @hsx @hci))))))))))) ?_
  exact ⟨by trivial,fR1 g7,fR1 g8,fR1 g17,fR1 g18,fR1 g19,fR1 g11,fR1 g20,by rw [e3] <;> exact fR,fR⟩
 ·clear g7 g8 g17 g18 g19 g11 g20 g21 g22 fr0
  rintro fr τ ⟨rfl,g7,g8,g17,g18,g19,g11,g20,g21,g22⟩
  simp only [tnC,Tryz.f8,gd_some,cd_nil,cd_0,cd_1,cd_2,cd_3]
  refine gU1 (aI @splice_succ (aI @bunAP (aI @g11 (aI @g22 @lt_self)))) ?_
  rw [<- hRl,List.take_length] at g21
  exact ⟨_,rfl,fR1 g7,fR1 g8,fR1 g17,fR1 g18,fR1 g19,fR1 g21⟩
end Go.Proofs.T
