/- Mz: the GC, the AC5 range, the FE. -/
import Derived.Test.YtbcanmagihejhaaGreatDoorSB
set_option linter.unusedSimpArgs false
set_option linter.unusedVariables false
set_option maxHeartbeats 32000000
set_option maxRecDepth 100000
namespace Go.Proofs.T
open Go Go.Ab
open Nat (reduceMul reduceEqDiff reduceAdd)
theorem GG {Z0 Z:St}{b w n c N:Nat}{sp:Option Nat}{t:By}{l:List By}(h:BDN Z b t N) (hE:Ext Z0 Z) (hb:Z0.n<=b) (hn:n=l.length) (hc:n<=c) (hl:(t++(spJ l++[10])).length<=1000000) (hn6:l.length<=1000000) (hr:Z.row w=some (l.map str)) :
  Ev (go Tryz.prog HS (.fn 64) [.slice (some ⟨w,0,sp⟩) n c,.pointer (some ⟨b,0,none⟩)] Z) (fun r=>∃ Z',r=⟨false,.tuple ⟨[]⟩,Z'⟩/\BD Z' b (t++(spJ l++[10]))/\Ext Z0 Z'/\∀ c,(c<Z0.n\/N<=c)->c<Z.n->Z'.h.get c=Z.h.get c) ⟨⟩:=by
 refine (Kg h hE hb hn hc hl hn6 hr).mono ?_;rintro r ⟨Z2,rfl,b2,e2,s2⟩;refine ⟨Z2,rfl,b2,e2,fun c h1 h2=>?_⟩;rcases h1 with h1|h1
 ·rw [e2.same c h1,hE.same c h1]
 ·exact s2 c h1 h2
theorem kq {Z Z1:St}{fr1:Fr}{ca:List Value}{T:Tn}(hT:Ar Z ca T) (hr:Ad T) (hS:T.Sm) (hpw:Z.read 1 0 20=some P9) (hp1:1<Z.n) (h:DV Z ca (B2 T) 4000 fr1 Z1) :
  Ev (lim Tryz.prog HS none (drC [1,1,1,1,1,1,1,0]) fr1 Z1) (fun r=>∃ fr Z',r=⟨.normal,fr,Z'⟩/\DV Z ca (B3 T) 8000 fr Z') ⟨⟩:=by
 obtain ⟨vl,vc,vr,ex,vt,vk,hp,h2,h3,h4,h5,h6,vs,h7,h8⟩:=hT.parts;obtain ⟨la,lc,lb,lo,lcs,rfl,l1,l2⟩:=h4.use;have L1:=hr.reqs;have s1:=hp.p3;have E0:Ext Z (Z.new ca):=eX;have w1:Z1.row Z.n=some ca:=by rw [h.ext.row (by simp)];exact cL
 have g1:=h.g1;simp only [drC,Tryz.f37,F9,I7,U9,V0,V6,V7];refine gU1 (a5N @A1 @A7 @g1 @w1 @s1) ?_
 refine L8 T.reqs.length (fun k fr Z'=>fr.get 79=some (.int .i64 k)/\fr.get 78=some (.int .i64 (T.reqs.length:Nat))/\fr.get 77=some (.slice la T.reqs.length lc)/\DV Z ca (B2 T++under ((T.reqs.take k).map gr)) (4000+100*k) fr Z')
  (fun r=>∃ fr Z',r=⟨.exit 4,fr,Z'⟩/\DV Z ca (B3 T) 8000 fr Z') ?_ ?_ ?_ ?_
 ·obtain ⟨g1,g3,g4,g5,g53,g54,bd,len,ext⟩:=h;exact ⟨fR,fR,fR,fR1 g1,fR1 g3,fR1 g4,fR1 g5,fR1 g53,fR1 g54,by rw [Ba,List.append_nil];exact bd,by rw [Ba,List.append_nil];omega,ext⟩
 ·rintro k fr Z' hk ⟨gk,gn,gs,g1,g3,g4,g5,g53,g54,bd,len,ext⟩;have hc:=O9 hk;have hE0:Ext Z Z':=E0.trans ext;obtain ⟨x,hx⟩:=H8 hk;obtain ⟨sp,rfl,l3,l4⟩:=l1 om;have w2:Z'.row lb=some lcs:=by rw [hE0.row l3];exact l4
  obtain ⟨m0,m1,m2⟩:=l2 k x hx;have mem:=List.mem_of_getElem? hx;have z1:=hS.req x mem;have hu1:=Bv z1;have ln:=NK (hr.req x mem).1;have lr:x.rel.length<=2:=by
   have:=(hr.req x mem).2.1;simp at this;rcases this with h|h <;> rw [h] <;> decide
  unfold Req.row at m0;simp (maxSteps:=8000000) (disch:=first|exact dS|fail) only [↓bD,bU,reduceMul,reduceEqDiff,reduceAdd,Nat.reduceBEq,reduceIte,Option.isNone_none,A1,A7,gk,gn,gs,g1,g3,g4,g5,hc,w2,m0,IV,PV];obtain ⟨S,hS'⟩:∃ S,((Z'.new [str [],str [],.int .i64 0] (some 82)).upd Z'.n [str x.name,str x.rel,.int .i64 x.value])=S:=⟨_,rfl⟩
  rw [hS'];have E1:Ext Z' S:=by rw [<- hS'];exact eX
  have nS:S.n=Z'.n+1:=by rw [<- hS'];rfl
  have wS:S.row Z'.n=some [str x.name,str x.rel,.int .i64 x.value]:=by rw [<- hS'];exact cL
  have i1:=Ig z1 hpw hp1 (hE0.trans E1);simp (maxSteps:=8000000) (disch:=first|exact dS|fail) only [↓bD,bU,reduceMul,reduceEqDiff,reduceAdd,Nat.reduceBEq,reduceIte,Option.isNone_none,A1,A7,gk,gn,gs,g1,g3,g4,g5,wS,i1,IV,PV];refine (Kg (Z0:=Z.new ca) (b:=Z.n+1) (t:=B2 T++under ((T.reqs.take k).map gr)) (l:=[[114,101,113,117,105,114,101],x.name,x.rel,dcN x.value.toNat]) (bd.ext (E1.trans (.new _ _))) (ext.trans (E1.trans (.new _ _))) (by simp) rfl (Nat.le_refl _) (by simp [spJ] at len ⊢;omega) (by simp) (cL)).mono ?_;rintro r ⟨Z2,rfl,bd2,Cp,s2⟩;simp (maxSteps:=8000000) (disch:=first|exact dS|fail) only [↓bD,bU,reduceMul,reduceEqDiff,reduceAdd,Nat.reduceBEq,reduceIte,Option.isNone_none,A1,A7,gk,gn,gs,g1,g3,g4,g5,wS,asx (Ext.refl _),FU (s2 Z'.n (Nat.le_refl _) (by simp;omega))]
  try refine H3.intro (by (repeat first|simp (disch:=omega) only [B9,C9,C0,asx (Ext.refl _),FU (s2 Z'.n (Nat.le_refl _) (by simp;omega))]|rw [D0 (by kernel_rfl)]);first|done|rfl) ?_
  try simp (maxSteps:=8000000) (disch:=first|exact dS|fail) only [↓bD,bU,reduceMul,reduceEqDiff,reduceAdd,Nat.reduceBEq,reduceIte,Option.isNone_none,A1,A7,gk,gn,gs,g1,g3,g4,g5]
  have ht:B2 T++under ((T.reqs.take (k+1)).map gr)=B2 T++under ((T.reqs.take k).map gr)++(spJ [[114,101,113,117,105,114,101],x.name,x.rel,dcN x.value.toNat]++[10]):=by rw [GJ hx];simp [gr,W6,spJ,LM.word,LM.txt]
  exact ⟨fR,fR1 gn,fR1 gs,fR1 g1,fR1 g3,fR1 g4,fR1 g5,fR1 g53,fR1 g54,by rw [ht];exact bd2,by rw [ht];simp [spJ] at len ⊢;omega,Cp⟩
 ·rintro fr Z' ⟨gk,gn,gs,g1,g3,g4,g5,g53,g54,bd,len,ext⟩;simp (maxSteps:=8000000) (disch:=first|exact dS|fail) only [↓bD,bU,reduceMul,reduceEqDiff,reduceAdd,Nat.reduceBEq,reduceIte,Option.isNone_none,A1,A7,gk,gn];exact ⟨_,_,rfl,fR1 g1,fR1 g3,fR1 g4,fR1 g5,fR1 g53,fR1 g54,by rw [Bb] at bd;exact bd,by rw [Bb] at len;show (B2 T++under (T.reqs.map gr)).length<=_;omega,ext⟩
 rintro r ⟨fr,Z',rfl,h⟩;refine gU1 (aI @A1 @A7) ?_;exact ⟨_,_,rfl,h⟩
theorem dk {Z Z1:St}{fr1:Fr}{ca:List Value}{T:Tn}(hT:Ar Z ca T) (hr:Ad T) (hS:T.Sm) (hpw:Z.read 1 0 20=some P9) (hp1:1<Z.n) (h:DV Z ca (B3 T) 8000 fr1 Z1) :
  Ev (lim Tryz.prog HS none (drC [1,1,1,1,1,1,1,1,0]) fr1 Z1) (fun r=>∃ fr Z',r=⟨.normal,fr,Z'⟩/\DV Z ca (B3 T++nl (W6 (.BT T.low.toNat T.high.toNat))) 8100 fr Z') ⟨⟩:=by
 obtain ⟨vl,vc,vr,ex,vt,vk,hp,h2,h3,h4,h5,h6,vs,h7,h8⟩:=hT.parts;obtain ⟨g1,g3,g4,g5,g53,g54,bd,len,ext⟩:=h;have s4:=hp.p4;have s5:=hp.p5;have E0:Ext Z (Z.new ca):=eX;have w1:Z1.row Z.n=some ca:=by rw [ext.row (by simp)];exact cL
 have hn1:=ext.n;simp only [N3] at hn1;have i1:=Ig hS.low hpw hp1 (E0.trans ext);have i2:=Ig hS.high hpw hp1 (E0.trans ext);have hu1:=Bv hS.low;have hu2:=Bv hS.high;simp only [drC,Tryz.f37,F9,I7,U9,V0,V6,V7];simp (maxSteps:=8000000) (disch:=first|exact dS|fail) only [↓bD,bU,reduceMul,reduceEqDiff,reduceAdd,Nat.reduceBEq,reduceIte,Option.isNone_none,A1,A7,g1,g3,g4,g5,w1,s4,s5,i1,i2,IV,PV];refine (GG (Z0:=Z.new ca) (b:=Z.n+1) (t:=B3 T) (l:=[[112,114,105,99,101],dcN T.low.toNat,dcN T.high.toNat]) (bd.ext (.new _ _)) (ext.trans (.new _ _)) (by simp) rfl (Nat.le_refl _) (by simp [spJ] at len ⊢;omega) (by simp) (cL)).mono ?_;rintro r ⟨Z2,rfl,bd2,Cp,s2⟩
 try simp (maxSteps:=8000000) (disch:=first|exact dS|fail) only [↓bD,bU,reduceMul,reduceEqDiff,reduceAdd,Nat.reduceBEq,reduceIte,Option.isNone_none,A1,A7,asx (Ext.refl _),FU (s2 Z.n (.inl (by simp)) (by simp;omega))]
 try refine H3.intro (by (repeat first|simp (disch:=omega) only [B9,C9,C0,asx (Ext.refl _),FU (s2 Z.n (.inl (by simp)) (by simp;omega))]|rw [D0 (by kernel_rfl)]);first|done|rfl) ?_
 try (refine gU1 (a3N @A1 @A7 @g1) ?_;try exact ⟨⟩)
 have ht:B3 T++nl (W6 (.BT T.low.toNat T.high.toNat))=B3 T++(spJ [[112,114,105,99,101],dcN T.low.toNat,dcN T.high.toNat]++[10]):=rfl;exact ⟨_,_,rfl,fR1 g1,fR1 g3,fR1 g4,fR1 g5,fR1 g53,fR1 g54,by rw [ht];exact bd2,by rw [ht];simp [spJ] at len ⊢;omega,Cp⟩
theorem sE {Z Z1:St}{fr1:Fr}{ca:List Value}{T:Tn}(hT:Ar Z ca T) (hr:Ad T) (hS:T.Sm) (hpw:Z.read 1 0 20=some P9) (hp1:1<Z.n) (h:DV Z ca (B3 T++nl (W6 (.BT T.low.toNat T.high.toNat))) 8100 fr1 Z1) :
  Ev (lim Tryz.prog HS none (drC [1,1,1,1,1,1,1,1,1,0]) fr1 Z1) (fun r=>∃ fr Z',r=⟨.normal,fr,Z'⟩/\DV Z ca (B4 T) 60000 fr Z') ⟨⟩:=by
 obtain ⟨vl,vc,vr,ex,vt,vk,hp,h2,h3,h4,h5,h6,vs,h7,h8⟩:=hT.parts;obtain ⟨g1,g3,g4,g5,g53,g54,bd,len,ext⟩:=h;obtain ⟨kf,jf,hf,xi,AG8⟩:=hr.f;have s6:=hp.p6;have E0:Ext Z (Z.new ca):=eX;have w1:Z1.row Z.n=some ca:=by rw [ext.row (by simp)];exact cL
 have hn1:=ext.n;simp only [N3] at hn1;have hE0:Ext Z Z1:=E0.trans ext;have hu3:=Fj hf 12 0 xi;simp only [drC,Tryz.f37,F9,I7,U9,V0,V6,V7];simp (maxSteps:=8000000) (disch:=first|exact dS|fail) only [↓bD,bU,reduceMul,reduceEqDiff,reduceAdd,Nat.reduceBEq,reduceIte,Option.isNone_none,A1,A7,g1,g3,g4,g5,w1,s6,IV,PV];refine (dq xi AG8 hf (h5.mono hE0) (An hE0 hp1 hpw) om).mono ?_;rintro r ⟨Z2,rfl,E2⟩;simp (maxSteps:=8000000) (disch:=first|exact dS|fail) only [↓bD,bU,reduceMul,reduceEqDiff,reduceAdd,Nat.reduceBEq,reduceIte,Option.isNone_none,A1,A7,g1,g3,g4,g5,IV,PV];refine (GG (Z0:=Z.new ca) (b:=Z.n+1) (t:=B3 T++nl (W6 (.BT T.low.toNat T.high.toNat))) (l:=[[102,111,114,109,117,108,97],N4 12 0 T.f]) (bd.ext (E2.trans (.new _ _))) (ext.trans (E2.trans (.new _ _))) (by simp) rfl (Nat.le_refl _) (by simp [spJ] at len ⊢;omega) (by simp) (cL)).mono ?_;rintro r ⟨Z3,rfl,bd3,AG9,s3⟩
 try simp (maxSteps:=8000000) (disch:=first|exact dS|fail) only [↓bD,bU,reduceMul,reduceEqDiff,reduceAdd,Nat.reduceBEq,reduceIte,Option.isNone_none,A1,A7,asx (Ext.refl _),FU (s3 Z.n (.inl (by simp)) (by have:=E2.n;simp;omega))]
 try refine H3.intro (by (repeat first|simp (disch:=omega) only [B9,C9,C0,asx (Ext.refl _),asx E2,FU (s3 Z.n (.inl (by simp)) (by have:=E2.n;simp;omega))]|rw [D0 (by kernel_rfl)]);first|done|rfl) ?_
 try (refine gU1 (a3N @A1 @A7 @g1) ?_;try exact ⟨⟩)
 have ht:B4 T=B3 T++nl (W6 (.BT T.low.toNat T.high.toNat))++(spJ [[102,111,114,109,117,108,97],N4 12 0 T.f]++[10]):=by unfold B4;rw [List.append_assoc];rfl
 exact ⟨_,_,rfl,fR1 g1,fR1 g3,fR1 g4,fR1 g5,fR1 g53,fR1 g54,by rw [ht];exact bd3,by rw [ht];simp [spJ] at len ⊢;omega,AG9⟩
theorem Sv (l:List By):(l.map fun s=>[str s]).flatten=l.map str:=by
 induction l with
 | nil=>rfl
 | cons s l ih=>simp [ih]
theorem NJ {lo:Nat}{Z:St}{v:Value}{l:List By}(h:Hv lo Z v l) (hne:l≠[]):∃ w sp,v= .slice (some ⟨w,0,sp⟩) l.length l.length/\Z.row w=some (l.map str)/\w<Z.n:=by
 obtain ⟨hr,⟨rfl,h0⟩|⟨b,sp,rfl,hs,h1,h2,h3⟩⟩:=h
 ·exact absurd (List.map_eq_nil_iff.1 h0) hne
 ·exact ⟨b,sp,by rw [List.length_map],by rw [A8 h3,Sv],h2⟩
theorem dP {cells:List Value}{o:Nat}{l:List By}(h0:0<l.length) (h:∀ k x,l[k]? =some x->sub cells (o+k) 1=some [str x]):sub cells o l.length=some (l.map str):=by
 have key:∀ k (hk:k<l.length),∃ h:o+k<cells.length,cells[o+k]=str l[k]:=by
  intro k hk;obtain ⟨h1,h2⟩:=sub_eq (h k _ (List.getElem?_eq_getElem hk));refine ⟨om,?_⟩;rw [List.drop_eq_getElem_cons om] at h2;injection h2 with h3;exact h3.symm
 obtain ⟨hl,-⟩:=key (l.length-1) om;rw [r9 om];congr 1;refine List.ext_getElem (by rw [List.length_take,List.length_drop,List.length_map];omega) fun i h1 h2=>?_;rw [List.length_map] at h2;obtain ⟨h3,h4⟩:=key i h2;rw [List.getElem_take,List.getElem_drop,List.getElem_map];exact h4
theorem Xq {n:Nat}:∀ l:List By,(∀ w∈l,w.length<=n)->(blk l).length<=(n+1)*l.length:=by
 intro l;induction l with
 | nil=>intro _;simp [blk]
 | cons w l ih =>
   intro h;have h1:=h w (List.mem_cons_self ..);have h2:=ih fun v hv=>h v (List.mem_cons_of_mem _ hv);show (32::(w++blk l)).length<=_;rw [List.length_cons,List.length_append,List.length_cons,Nat.mul_add];omega
theorem kT {Z Z1:St}{fr1:Fr}{ca:List Value}{T:Tn}(hT:Ar Z ca T) (hr:Ad T) (hS:T.Sm) (hpw:Z.read 1 0 20=some P9) (hp1:1<Z.n) (h:DV Z ca (B4 T) 60000 fr1 Z1) :
  Ev (lim Tryz.prog HS none (drC [1,1,1,1,1,1,1,1,1,1,0]) fr1 Z1) (fun r=>∃ fr Z',r=⟨.normal,fr,Z'⟩/\DV Z ca (B5 T) 62000 fr Z') ⟨⟩:=by
 obtain ⟨vl,vc,vr,ex,vt,vk,hp,h2,h3,h4,h5,h6,vs,h7,h8⟩:=hT.parts;obtain ⟨g1,g3,g4,g5,g53,g54,bd,len,ext⟩:=h;obtain ⟨ta,tc,tb,to',tcs,rfl,t1,t2⟩:=h6.use;have s7:=hp.p11;have L4:=hr.E9;have E0:Ext Z (Z.new ca):=eX;have w1:Z1.row Z.n=some ca:=by rw [ext.row (by simp)];exact cL
 have hn1:=ext.n;simp only [N3] at hn1;have hE0:Ext Z Z1:=E0.trans ext;simp only [drC,Tryz.f37,F9,I7,U9,V0,V6,V7];refine gU1 (a5N @A1 @A7 @g1 @w1 @s7) ?_;cases ht:decide (0<(T.E9.length:Int)) with
 | false =>
   refine gU1 (aI @A1 @A7) ?_;have hB:B5 T=B4 T:=by unfold B5;rw [if_pos (List.eq_nil_of_length_eq_zero (by have:=of_decide_eq_false ht;omega)),List.append_nil]
   exact ⟨_,_,rfl,fR1 g1,fR1 g3,fR1 g4,fR1 g5,fR1 g53,fR1 g54,by rw [hB];exact bd,by rw [hB];omega,ext⟩
 | true =>
   have Lw:0<T.E9.length:=by have:=of_decide_eq_true ht;omega
   obtain ⟨sp,rfl,l3,l4⟩:=t1 Lw;have w2:(Z1.new [str [116,105,101]]).row tb=some tcs:=by rw [Af om,hE0.row l3];exact l4
   have hB:B5 T=B4 T++(spJ (ZW::T.E9)++[10]):=by unfold B5;rw [if_neg (by intro h0;rw [h0] at Lw;simp at Lw)];rfl
   have hbl:(spJ (ZW::T.E9)).length<=400:=by
    have:=Xq (n:=30) T.E9 fun x hx=>by
     rcases hr.tie x hx with h|h
     ·rw [h];decide
     ·exact NK h
    rw [NL,List.length_append];have h3:ZW.length=3:=rfl;omega
   simp (maxSteps:=8000000) (disch:=first|exact dS|fail) only [↓bD,bU,reduceMul,reduceEqDiff,reduceAdd,Nat.reduceBEq,reduceIte,Option.isNone_none,A1,N7,T1,T5,R6,K2,Q8,J0,J5,F4,g1,g4,w1,s7,PV];have ho:OL Z1.n (Z1.new [str [116,105,101]]) 1 (.slice (some ⟨Z1.n,0,none⟩) 1 1) [[str ZW]]:=OL.mk (cells:=[str [116,105,101]]) rfl rfl (by simp) (.inl rfl) (Nat.le_refl _) (by simp) (cL);refine Vd (rows2:=T.E9.map fun s=>[str s]) (fun _ _ _ _=>R7) ho (by simp) Lw (by simp) w2 (by rw [Nat.mul_one,Sv];exact dP Lw t2) (by simp;omega) (by simp) ?_;rintro v' Z3 ho3 hap -;have ho4:Hv Z1.n Z3 v' (ZW::T.E9):=ho3;obtain ⟨w,sp',rfl,hw,hwn⟩:=NJ ho4 (by simp);have hE3:Ext Z1 Z3:=hap.ext (.new _ _) ho (Nat.le_refl _);simp (maxSteps:=8000000) (disch:=first|exact dS|fail) only [↓bD,bU,reduceMul,reduceEqDiff,reduceAdd,Nat.reduceBEq,reduceIte,Option.isNone_none,A1,N7,T1,T5,R6,K2,Q8,J0,J5,F4,g1,g4,PV];refine (GG (Z0:=Z.new ca) (b:=Z.n+1) (t:=B4 T) (l:=ZW::T.E9) (bd.ext hE3) (ext.trans hE3) (by simp) rfl (Nat.le_refl _) (by rw [List.length_append,List.length_append];show _+(_+1)<=_;omega) (by simp;omega) hw).mono ?_;rintro r ⟨Z2,rfl,bd2,Cp,s2⟩;refine gU1 (a3N @A1 @A7 @g1) ?_;exact ⟨_,_,rfl,fR1 g1,fR1 g3,fR1 g4,fR1 g5,fR1 g53,fR1 g54,by rw [hB];exact bd2,by rw [hB,List.length_append,List.length_append];show _+(_+1)<=_;omega,Cp⟩
theorem kU {Z Z1:St}{fr1:Fr}{ca:List Value}{T:Tn}(hT:Ar Z ca T) (hr:Ad T) (hS:T.Sm) (hpw:Z.read 1 0 20=some P9) (hp1:1<Z.n) (h:DV Z ca (B5 T) 62000 fr1 Z1) :
  Ev (lim Tryz.prog HS none (drC [1,1,1,1,1,1,1,1,1,1,1,0]) fr1 Z1) (fun r=>∃ fr Z',r=⟨.normal,fr,Z'⟩/\DV Z ca (B6 T) 62100 fr Z') ⟨⟩:=by
 obtain ⟨vl,vc,vr,ex,vt,vk,hp,h2,h3,h4,h5,h6,vs,h7,h8⟩:=hT.parts;obtain ⟨g1,g3,g4,g5,g53,g54,bd,len,ext⟩:=h;have s8:=hp.p12;have E0:Ext Z (Z.new ca):=eX;have w1:Z1.row Z.n=some ca:=by rw [ext.row (by simp)];exact cL
 have hn1:=ext.n;simp only [N3] at hn1;have hE0:Ext Z Z1:=E0.trans ext;have i1:=Ig hS.D5 hpw hp1 hE0;have hu1:=Bv hS.D5;simp only [drC,Tryz.f37,F9,I7,U9,V0,V6,V7];refine gU1 (a5N @A1 @A7 @g1 @w1 @s8) ?_;cases hm:decide (T.D5=0) with
 | true =>
   refine gU1 (aI @A1 @A7) ?_;have hB:B6 T=B5 T:=by unfold B6;rw [if_pos (of_decide_eq_true hm),List.append_nil]
   exact ⟨_,_,rfl,fR1 g1,fR1 g3,fR1 g4,fR1 g5,fR1 g53,fR1 g54,by rw [hB];exact bd,by rw [hB];omega,ext⟩
 | false =>
   have hB:B6 T=B5 T++(spJ [[109,111,115,116],dcN T.D5.toNat]++[10]):=by unfold B6;rw [if_neg (of_decide_eq_false hm)];rfl
   simp (maxSteps:=8000000) (disch:=first|exact dS|fail) only [↓bD,bU,reduceMul,reduceEqDiff,reduceAdd,Nat.reduceBEq,reduceIte,Option.isNone_none,A1,A7,g1,g4,g5,w1,s8,i1,PV,IV];refine (GG (Z0:=Z.new ca) (b:=Z.n+1) (t:=B5 T) (l:=[[109,111,115,116],dcN T.D5.toNat]) (bd.ext (.new _ _)) (ext.trans (.new _ _)) (by simp) rfl (Nat.le_refl _) (by simp [spJ] at len ⊢;omega) (by simp) (cL)).mono ?_;rintro r ⟨Z2,rfl,bd2,Cp,s2⟩;refine gU1 (a3N @A1 @A7 @g1) ?_;exact ⟨_,_,rfl,fR1 g1,fR1 g3,fR1 g4,fR1 g5,fR1 g53,fR1 g54,by rw [hB];exact bd2,by rw [hB];simp [spJ] at len ⊢;omega,Cp⟩
theorem wD {nm t:By}{kd lo hi:Int}{less:Bool}(h:t=if kd.toNat=2 then BU else Cv):gc ⟨nm,kd,lo,hi,less⟩=spJ ([[99,114,105,116,101,114,105,111,110],nm,t,dcN lo.toNat,dcN hi.toNat]++if less=true then [Cq] else []):=by subst h;rfl
theorem wE {S:St}{fr:Fr}{X:Nat}{nm:By}{kd lw hg:Int}{ls:Bool}(h:kd=1\/kd=2) (g9:fr.get 9=some (.pointer (some ⟨X,0,none⟩))) (g5:fr.get 5=some IV) (g53:fr.get 53=none) (g54:fr.get 54=none) (wS:S.row X=some [str nm,.int .i64 kd,.int .i64 lw,.int .i64 hg,.bool ls])
  {a b:By} (i1:go Tryz.prog HS (.fn 67) [.int .i64 lw] S=some ⟨false,str a,S⟩) (i2:go Tryz.prog HS (.fn 67) [.int .i64 hg] S=some ⟨false,str b,S⟩) :
  Ev (lim Tryz.prog HS none (.region 13 drL.toArray true) fr S) (fun r=>∃ t fr',(t.length=5/\t=(if kd.toNat=2 then BU else Cv))/\r=⟨.normal,fr',S.new [str [99,114,105,116,101,114,105,111,110],str nm,str t,str a,str b]⟩/\fr'.get 10=some (.slice (some ⟨S.n,0,none⟩) 5 5)/\∀ i,i<10\/i=45\/i=46\/i=47\/i=53\/i=54->fr'.get i=fr.get i) ⟨⟩:=by
 obtain ⟨t,ht5,htk,hV,hok,hkv⟩:=kI h;refine (xD g9 g5 g53 g54 wS i1 i2 hV hok hkv).mono ?_;rintro r ⟨fr',h1,h2,h3⟩;exact ⟨t,fr',⟨ht5,htk⟩,h1,h2,h3⟩
theorem SQ:drC [1,1,1,1,1,1,0]= .seq (drC [1,1,1,1,1,1,0,0]) (.block 2 (.loop (.seq (drC [1,1,1,1,1,1,0,1,2,3,0]) (.seq (drC [1,1,1,1,1,1,0,1,2,3,1,0]) (.seq (.block 3 (.seq (drC [1,1,1,1,1,1,0,1,2,3,1,1,0,2,0]) (.seq (.region 13 drL.toArray true) (drC [1,1,1,1,1,1,0,1,2,3,1,1,0,2,1,1])))) (drC [1,1,1,1,1,1,0,1,2,3,1,1,1])))))):=by kernel_rfl
theorem jX {Z Z1:St}{fr1:Fr}{ca:List Value}{T:Tn}(hT:Ar Z ca T) (hr:Ad T) (hS:T.Sm) (hpw:Z.read 1 0 20=some P9) (hp1:1<Z.n) (h:DV Z ca (B1 T) 2000 fr1 Z1) :
  Ev (lim Tryz.prog HS none (drC [1,1,1,1,1,1,0]) fr1 Z1) (fun r=>∃ fr Z',r=⟨.normal,fr,Z'⟩/\DV Z ca (B2 T) 4000 fr Z') ⟨⟩:=by
 obtain ⟨vl,vc,vr,ex,vt,vk,hp,h2,h3,h4,h5,h6,vs,h7,h8⟩:=hT.parts;obtain ⟨la,lc,lb,lo,lcs,rfl,l1,l2⟩:=h3.use;have L1:=hr.C7;have s1:=hp.p2;have E0:Ext Z (Z.new ca):=eX;have w1:Z1.row Z.n=some ca:=by rw [h.ext.row (by simp)];exact cL
 have g1:=h.g1;rw [SQ];obtain ⟨X,hX⟩:∃ X,Code.region 13 drL.toArray true=X:=⟨_,rfl⟩
 rw [hX];simp only [drC,Tryz.f37,F9,I7,U9,V0,V6,V7];refine gU1 (a5N @A1 @A7 @g1 @w1 @s1) ?_
 refine L8 T.C7.length (fun k fr Z'=>fr.get 47=some (.int .i64 k)/\fr.get 46=some (.int .i64 (T.C7.length:Nat))/\fr.get 45=some (.slice la T.C7.length lc)/\DV Z ca (B1 T++under ((T.C7.take k).map gc)) (2000+100*k) fr Z')
  (fun r=>∃ fr Z',r=⟨.exit 2,fr,Z'⟩/\DV Z ca (B2 T) 4000 fr Z') ?_ ?_ ?_ ?_
 ·obtain ⟨g1,g3,g4,g5,g53,g54,bd,len,ext⟩:=h;exact ⟨fR,fR,fR,fR1 g1,fR1 g3,fR1 g4,fR1 g5,fR1 g53,fR1 g54,by rw [Ba,List.append_nil];exact bd,by rw [Ba,List.append_nil];omega,ext⟩
 ·rintro k fr Z' hk ⟨gk,gn,gs,g1,g3,g4,g5,g53,g54,bd,len,ext⟩;have hc:=O9 hk;have hE0:Ext Z Z':=E0.trans ext;obtain ⟨x,hx⟩:=H8 hk;obtain ⟨sp,rfl,l3,l4⟩:=l1 om;have w2:Z'.row lb=some lcs:=by rw [hE0.row l3];exact l4
  obtain ⟨m0,m1,m2⟩:=l2 k x hx;have mem:=List.mem_of_getElem? hx;obtain ⟨kd,z1,z2⟩:=hS.Bi x mem;have ln:=NK (hr.Bi x mem).1;obtain ⟨nm,knd,lw,hg,less⟩:=x;have z1:SmN lw:=z1;have z2:SmN hg:=z2;have kd:knd=1\/knd=2:=kd;have ln:nm.length<=30:=ln;have hu1:=Bv z1;have hu2:=Bv z2;unfold R0.row at m0;simp (maxSteps:=8000000) (disch:=first|exact dS|fail) only [↓bD,bU,reduceMul,reduceEqDiff,reduceAdd,Nat.reduceBEq,reduceIte,Option.isNone_none,A1,A7,gk,gn,gs,g1,g3,g4,g5,hc,w2,m0,IV,PV];obtain ⟨S,hS'⟩:∃ S,((Z'.new [str [],.int .i64 0,.int .i64 0,.int .i64 0,.bool false] (some 80)).upd Z'.n [str nm,.int .i64 knd,.int .i64 lw,.int .i64 hg,.bool less])=S:=⟨_,rfl⟩
  rw [hS'];have E1:Ext Z' S:=by rw [<- hS'];exact eX
  have nS:S.n=Z'.n+1:=by rw [<- hS'];rfl
  have wS:S.row Z'.n=some [str nm,.int .i64 knd,.int .i64 lw,.int .i64 hg,.bool less]:=by rw [<- hS'];exact cL
  have i1:=Ig z1 hpw hp1 (hE0.trans E1);have i2:=Ig z2 hpw hp1 (hE0.trans E1);rw [<- hX];refine (wE kd (X:=Z'.n) ?a ?b ?c ?d wS i1 i2).mono ?_
  ·simp only [↓L7,Nat.reduceEqDiff,reduceIte]
  ·simp only [↓L7,Nat.reduceEqDiff,reduceIte,g5]
  ·simp only [↓L7,Nat.reduceEqDiff,reduceIte,g53]
  ·simp only [↓L7,Nat.reduceEqDiff,reduceIte,g54]
  rintro r ⟨t,fr2,⟨ht5,htk⟩,rfl,j10,E8⟩;have j9:fr2.get 9=some (.pointer (some ⟨Z'.n,0,none⟩)):=(E8 9 om).trans (by simp only [↓L7,Nat.reduceEqDiff,reduceIte]);have j1:fr2.get 1=some (.pointer (some ⟨Z.n,0,none⟩)):=(E8 1 om).trans (by simp only [↓L7,Nat.reduceEqDiff,reduceIte,g1]);have j3:fr2.get 3=some (.pointer (some ⟨Z.n+1,0,none⟩)):=(E8 3 om).trans (by simp only [↓L7,Nat.reduceEqDiff,reduceIte,g3]);have j4:fr2.get 4=some (PV (Z.n+1)):=(E8 4 om).trans (by simp only [↓L7,Nat.reduceEqDiff,reduceIte,g4]);have j5:fr2.get 5=some IV:=(E8 5 om).trans (by simp only [↓L7,Nat.reduceEqDiff,reduceIte,g5]);have j45:fr2.get 45=some (.slice (some ⟨lb,lo,sp⟩) T.C7.length lc):=(E8 45 om).trans (by simp only [↓L7,Nat.reduceEqDiff,reduceIte,gs]);have j46:fr2.get 46=some (.int .i64 (T.C7.length:Nat)):=(E8 46 om).trans (by simp only [↓L7,Nat.reduceEqDiff,reduceIte,gn]);have j47:fr2.get 47=some (.int .i64 k):=(E8 47 om).trans (by simp only [↓L7,Nat.reduceEqDiff,reduceIte,gk]);have j53:fr2.get 53=none:=(E8 53 om).trans (by simp only [↓L7,Nat.reduceEqDiff,reduceIte,g53]);have j54:fr2.get 54=none:=(E8 54 om).trans (by simp only [↓L7,Nat.reduceEqDiff,reduceIte,g54]);have hgc:=wD (nm:=nm) (kd:=knd) (lo:=lw) (hi:=hg) (less:=less) htk;have htk:B1 T++under ((T.C7.take (k+1)).map gc)=B1 T++under ((T.C7.take k).map gc)++(gc ⟨nm,knd,lw,hg,less⟩++[10]):=by rw [GJ hx,List.append_assoc]
  obtain ⟨S2,hS2⟩:∃ S2,S.new [str [99,114,105,116,101,114,105,111,110],str nm,str t,str (dcN lw.toNat),str (dcN hg.toNat)]=S2:=⟨_,rfl⟩
  have E2:Ext S S2:=by rw [<- hS2];exact eX
  have n2:S2.n=S.n+1:=by rw [<- hS2];rfl
  have w5:S2.row S.n=some ([[99,114,105,116,101,114,105,111,110],nm,t,dcN lw.toNat,dcN hg.toNat].map str):=by rw [<- hS2];exact cL
  have o5:S2.A5 S.n=some ([[99,114,105,116,101,114,105,111,110],nm,t,dcN lw.toNat,dcN hg.toNat].map str):=by rw [<- hS2];exact cL
  have wS:S2.row Z'.n=some [str nm,.int .i64 knd,.int .i64 lw,.int .i64 hg,.bool less]:=by rw [E2.row om];exact wS
  rw [hS2];clear E8;have hlb:Cq.length=4:=rfl;cases less with
  | false =>
    simp (maxSteps:=8000000) (disch:=first|exact dS|fail) only [↓bD,bU,reduceMul,reduceEqDiff,reduceAdd,Nat.reduceBEq,reduceIte,Option.isNone_none,A1,A7,j9,j4,j10,wS,PV];refine (Kg (Z0:=Z.new ca) (b:=Z.n+1) (t:=B1 T++under ((T.C7.take k).map gc)) (l:=[[99,114,105,116,101,114,105,111,110],nm,t,dcN lw.toNat,dcN hg.toNat]) (bd.ext (E1.trans E2)) (ext.trans (E1.trans E2)) (by simp) rfl (Nat.le_refl _) (by simp [spJ] at len ⊢;omega) (by simp) w5).mono ?_;rintro r ⟨Z2,rfl,bd2,Cp,s2⟩;refine gU1 (a4N @A1 @A7 @j47 @j46) ?_;exact ⟨fR,fR1 j46,fR1 j45,fR1 j1,fR1 j3,fR1 j4,fR1 j5,fR1 j53,fR1 j54,by rw [htk,hgc];exact bd2,by rw [htk,hgc];simp [spJ] at len ⊢;omega,Cp⟩
  | true =>
    simp (maxSteps:=8000000) (disch:=first|exact dS|fail) only [↓bD,bU,reduceMul,reduceEqDiff,reduceAdd,Nat.reduceBEq,reduceIte,Option.isNone_none,A1,N7,T1,T5,R6,K2,Q8,J0,J5,F4,j9,j4,j10,wS,PV];have ho:Hv S.n S2 (.slice (some ⟨S.n,0,none⟩) 5 5) [[99,114,105,116,101,114,105,111,110],nm,t,dcN lw.toNat,dcN hg.toNat]:=OL.mk rfl rfl (by simp) (.inl rfl) (Nat.le_refl _) om o5;refine Yq (Z0:=S) (s:=Cq) (fun _ _ _ _=>R7) ho E2 (.refl _) (Nat.le_refl _) om (by simp) ?_;rintro v' Z3 ho3 hE3 hn3 -;obtain ⟨w,sp',rfl,hw,hwn⟩:=NJ ho3 (by simp);simp (maxSteps:=8000000) (disch:=first|exact dS|fail) only [↓bD,bU,reduceMul,reduceEqDiff,reduceAdd,Nat.reduceBEq,reduceIte,Option.isNone_none,A1,N7,T1,T5,R6,K2,Q8,J0,J5,F4,j4,PV];refine (Kg (Z0:=Z.new ca) (b:=Z.n+1) (t:=B1 T++under ((T.C7.take k).map gc)) (l:=[[99,114,105,116,101,114,105,111,110],nm,t,dcN lw.toNat,dcN hg.toNat]++[Cq]) (bd.ext (E1.trans hE3)) (ext.trans (E1.trans hE3)) (by simp) rfl (Nat.le_refl _) (by simp [spJ] at len ⊢;omega) (by simp) hw).mono ?_;rintro r ⟨Z2,rfl,bd2,Cp,s2⟩;refine gU1 (a4N @A1 @A7 @j47 @j46) ?_;exact ⟨fR,fR1 j46,fR1 j45,fR1 j1,fR1 j3,fR1 j4,fR1 j5,fR1 j53,fR1 j54,by rw [htk,hgc];exact bd2,by rw [htk,hgc];simp [spJ] at len ⊢;omega,Cp⟩
 ·rintro fr Z' ⟨gk,gn,gs,g1,g3,g4,g5,g53,g54,bd,len,ext⟩;simp (maxSteps:=8000000) (disch:=first|exact dS|fail) only [↓bD,bU,reduceMul,reduceEqDiff,reduceAdd,Nat.reduceBEq,reduceIte,Option.isNone_none,A1,A7,gk,gn];exact ⟨_,_,rfl,fR1 g1,fR1 g3,fR1 g4,fR1 g5,fR1 g53,fR1 g54,by rw [Bb] at bd;exact bd,by rw [Bb] at len;show (B1 T++under (T.C7.map gc)).length<=_;omega,ext⟩
 rintro r ⟨fr,Z',rfl,h⟩;refine gU1 (aI @A1 @A7) ?_;exact ⟨_,_,rfl,h⟩
theorem cE {Z Z1:St}{fr1:Fr}{ca:List Value}{T:Tn}(hT:Ar Z ca T) (hr:Ad T) (hS:T.Sm) (hpw:Z.read 1 0 20=some P9) (hp1:1<Z.n) (h:DV Z ca (B6 T) 62100 fr1 Z1) :
  Ev (lim Tryz.prog HS none (drC [1,1,1,1,1,1,1,1,1,1,1,1,0]) fr1 Z1) (fun r=>∃ fr Z',r=⟨.normal,fr,Z'⟩/\DV Z ca (B7 T) 70000 fr Z') ⟨⟩:=by
 obtain ⟨vl,vc,vr,ex,vt,vk,hp,h2,h3,h4,h5,h6,vs,h7,h8⟩:=hT.parts;obtain ⟨ka,kc,kb,ko,kcs,rfl,k1,k2⟩:=SL.Lx h7;have L6:=h8.len;have L5:=hr.C3;have s9:=hp.p13;have E0:Ext Z (Z.new ca):=eX;have w1:Z1.row Z.n=some ca:=by rw [h.ext.row (by simp)];exact cL
 have g1:=h.g1;simp only [drC,Tryz.f37,F9,I7,U9,V0,V6,V7];refine gU1 (a5N @A1 @A7 @g1 @w1 @s9) ?_
 refine L8 vs.length (fun k fr Z'=>fr.get 135=some (.int .i64 k)/\fr.get 134=some (.int .i64 (vs.length:Nat))/\fr.get 133=some (.slice ka vs.length kc)/\DV Z ca (B6 T++under ((T.C3.take k).map gk)) (62100+400*k) fr Z')
  (fun r=>∃ fr Z',r=⟨.exit 6,fr,Z'⟩/\DV Z ca (B7 T) 70000 fr Z') ?_ ?_ ?_ ?_
 ·obtain ⟨g1,g3,g4,g5,g53,g54,bd,len,ext⟩:=h;exact ⟨fR,fR,fR,fR1 g1,fR1 g3,fR1 g4,fR1 g5,fR1 g53,fR1 g54,by rw [Ba,List.append_nil];exact bd,by rw [Ba,List.append_nil];omega,ext⟩
 ·rintro k fr Z' hk ⟨gq,gn,gs,g1,g3,g4,g5,g53,g54,bd,len,ext⟩;have hc:=O9 hk;have hE0:Ext Z Z':=E0.trans ext;have hn1:=ext.n;simp only [N3] at hn1;obtain ⟨x,hx⟩:=H8 hk;obtain ⟨C,hC⟩:=H8 (show k<T.C3.length by omega);obtain ⟨ia,ic,ib,io,ics,rfl,i1,i2⟩:=(h8.get hx hC).use;have wB:=List.mem_of_getElem? hC;have LC:=(hr.combo C wB).2.1;obtain ⟨sp,rfl,l3,l4⟩:=k1 om;have w2:Z'.row kb=some kcs:=by rw [hE0.row l3];exact l4
  have m1:=k2 k _ hx;rw [Nat.mul_one] at m1;refine gU1 (a8N @A1 @A7 @gq @gn @gs @hc @w2 @m1) ?_
  refine L8 C.length (fun i fr τ=>fr.get 142=some (.int .i64 i)/\fr.get 141=some (.int .i64 (C.length:Nat))/\fr.get 140=some (.slice ia C.length ic)/\fr.get 135=some (.int .i64 k)/\fr.get 134=some (.int .i64 (vs.length:Nat))/\fr.get 133=some (.slice (some ⟨kb,ko,sp⟩) vs.length kc)/\fr.get 1=some (.pointer (some ⟨Z.n,0,none⟩))/\fr.get 3=some (.pointer (some ⟨Z.n+1,0,none⟩))/\fr.get 4=some (PV (Z.n+1))/\fr.get 5=some IV/\fr.get 53=none/\fr.get 54=none/\∃ v,fr.get 15=some v/\Hv Z'.n τ v ([[99,111,109,98,111]]++(C.take i).map fun n=>dcN n.toNat)/\Ext Z' τ)
   (fun r=>∃ fr τ,r=⟨.exit 8,fr,τ⟩/\fr.get 135=some (.int .i64 k)/\fr.get 134=some (.int .i64 (vs.length:Nat))/\fr.get 133=some (.slice (some ⟨kb,ko,sp⟩) vs.length kc)/\fr.get 1=some (.pointer (some ⟨Z.n,0,none⟩))/\fr.get 3=some (.pointer (some ⟨Z.n+1,0,none⟩))/\fr.get 4=some (PV (Z.n+1))/\fr.get 5=some IV/\fr.get 53=none/\fr.get 54=none/\∃ v,fr.get 15=some v/\Hv Z'.n τ v ([[99,111,109,98,111]]++C.map fun n=>dcN n.toNat)/\Ext Z' τ) ?_ ?_ ?_ ?_
  ·exact ⟨fR,fR,fR,fR1 gq,fR1 gn,fR1 gs,fR1 g1,fR1 g3,fR1 g4,fR1 g5,fR1 g53,fR1 g54,_,fR,OL.mk (cells:=[str [99,111,109,98,111]]) rfl rfl (by simp) (.inl rfl) (Nat.le_refl _) (by simp) (cL),.new _ _⟩
  ·clear gq gn gs g1 g3 g4 g5 g53 g54 fr;rintro i fr τ hi ⟨gi,gin,gis,gq,gn,gs,g1,g3,g4,g5,g53,g54,v,g15,ho,hF⟩;have hc:=O9 hi;obtain ⟨y,hy⟩:=H8 hi;obtain ⟨sp',rfl,l5,l6⟩:=i1 om;have zy:=hS.combo C wB y (List.mem_of_getElem? hy);have hF0:Ext Z τ:=hE0.trans hF;have v3:τ.row ib=some ics:=by rw [hF0.row l5];exact l6
   have n1:=i2 i y hy;have j1:=Ig zy hpw hp1 hF0;simp (maxSteps:=8000000) (disch:=first|exact dS|fail) only [↓bD,bU,reduceMul,reduceEqDiff,reduceAdd,Nat.reduceBEq,reduceIte,Option.isNone_none,A1,N7,T1,T5,R6,K2,Q8,J0,J5,F4,gi,gin,gis,g15,g5,hc,v3,n1,j1,IV];refine Yq (s:=dcN y.toNat) (fun _ _ _ _=>R7) ho hF (.refl _) (Nat.le_refl _) hF.n (by simp;omega) ?_;rintro v' τ3 ho3 hF3 hn3 -;refine gU1 (a11N @A1 @N7 @T1 @T5 @R6 @K2 @Q8 @J0 @J5 @F4 @gi) ?_;exact ⟨fR,fR1 gin,fR1 gis,fR1 gq,fR1 gn,fR1 gs,fR1 g1,fR1 g3,fR1 g4,fR1 g5,fR1 g53,fR1 g54,v',fR,by rw [List.take_add_one,hy,List.map_append];exact ho3,hF3⟩
  ·clear gq gn gs g1 g3 g4 g5 g53 g54 fr;rintro fr τ ⟨gi,gin,gis,gq,gn,gs,g1,g3,g4,g5,g53,g54,v,g15,ho,hF⟩;refine gU1 (a4N @A1 @A7 @gi @gin) ?_;exact ⟨_,_,rfl,fR1 gq,fR1 gn,fR1 gs,fR1 g1,fR1 g3,fR1 g4,fR1 g5,fR1 g53,fR1 g54,v,fR1 g15,by rw [List.take_length] at ho;exact ho,hF⟩
  clear gq gn gs g1 g3 g4 g5 g53 g54 fr;rintro r ⟨fr,τ,rfl,gq,gn,gs,g1,g3,g4,g5,g53,g54,v,g15,ho,hF⟩;obtain ⟨w,sp',rfl,hw,hwn⟩:=NJ ho (by simp);have hmm:(C.map Int.toNat).map dcN=C.map fun n=>dcN n.toNat:=by rw [List.map_map];rfl
  have hgk:gk C=spJ ([[99,111,109,98,111]]++C.map fun n=>dcN n.toNat):=by rw [<- hmm];rfl
  have hbl:(spJ ([[99,111,109,98,111]]++C.map fun n=>dcN n.toNat)).length<=200:=by
   have:=Xq (n:=9) (C.map fun n=>dcN n.toNat) fun x hx=>by
    obtain ⟨n,hn,rfl⟩:=List.mem_map.1 hx;exact Bv (hS.combo C wB n hn)
   rw [List.length_map] at this;have h5:spJ ([[99,111,109,98,111]]++C.map fun n=>dcN n.toNat)=[99,111,109,98,111]++blk (C.map fun n=>dcN n.toNat):=NL _ _;rw [h5,List.length_append];have h6:([99,111,109,98,111]:By).length=5:=rfl;omega
  have ht:B6 T++under ((T.C3.take (k+1)).map gk)=B6 T++under ((T.C3.take k).map gk)++(spJ ([[99,111,109,98,111]]++C.map fun n=>dcN n.toNat)++[10]):=by
   rw [GJ hC,hgk,List.append_assoc]
  simp (maxSteps:=8000000) (disch:=first|exact dS|fail) only [↓bD,bU,reduceMul,reduceEqDiff,reduceAdd,Nat.reduceBEq,reduceIte,Option.isNone_none,A1,A7,g15,g4,PV];refine (GG (Z0:=Z.new ca) (b:=Z.n+1) (t:=B6 T++under ((T.C3.take k).map gk)) (l:=[[99,111,109,98,111]]++C.map fun n=>dcN n.toNat) (bd.ext hF) (ext.trans hF) (by simp) rfl (Nat.le_refl _) (by rw [List.length_append,List.length_append (bs:=[10])];show _+(_+1)<=_;omega) (by simp;omega) hw).mono ?_;rintro r ⟨Z2,rfl,bd2,Cp,s2⟩;refine gU1 (a3N @A1 @A7 @gq) ?_;exact ⟨fR,fR1 gn,fR1 gs,fR1 g1,fR1 g3,fR1 g4,fR1 g5,fR1 g53,fR1 g54,by rw [ht];exact bd2,by rw [ht,List.length_append,List.length_append (bs:=[10])];show _+(_+1)<=_;omega,Cp⟩
 ·rintro fr Z' ⟨gq,gn,gs,g1,g3,g4,g5,g53,g54,bd,len,ext⟩;refine gU1 (a4N @A1 @A7 @gq @gn) ?_;rw [L6] at bd len;exact ⟨_,_,rfl,fR1 g1,fR1 g3,fR1 g4,fR1 g5,fR1 g53,fR1 g54,by rw [Bb] at bd;exact bd,by rw [Bb] at len;show (B6 T++under (T.C3.map gk)).length<=_;omega,ext⟩
 rintro r ⟨fr,Z',rfl,h⟩;refine gU1 (aI @A1 @A7) ?_;exact ⟨_,_,rfl,h⟩
def B8 (T:Tn):By:=B7 T++nl (W6 (.C1 T.C1.toNat))
theorem cG {Z Z1:St}{fr1:Fr}{ca:List Value}{T:Tn}(hT:Ar Z ca T) (hr:Ad T) (hS:T.Sm) (hpw:Z.read 1 0 20=some P9) (hp1:1<Z.n) (h:DV Z ca (B7 T) 70000 fr1 Z1) :
  Ev (lim Tryz.prog HS none (drC [1,1,1,1,1,1,1,1,1,1,1,1,1,0]) fr1 Z1) (fun r=>∃ fr Z',r=⟨.normal,fr,Z'⟩/\DV Z ca (B8 T) 70100 fr Z') ⟨⟩:=by
 obtain ⟨vl,vc,vr,ex,vt,vk,hp,h2,h3,h4,h5,h6,vs,h7,h8⟩:=hT.parts;obtain ⟨g1,g3,g4,g5,g53,g54,bd,len,ext⟩:=h;have s10:=hp.p14;have E0:Ext Z (Z.new ca):=eX;have w1:Z1.row Z.n=some ca:=by rw [ext.row (by simp)];exact cL
 have hn1:=ext.n;simp only [N3] at hn1;have hE0:Ext Z Z1:=E0.trans ext;have i1:=Ig hS.C1 hpw hp1 hE0;have hu1:=Bv hS.C1;have hB:B8 T=B7 T++(spJ [[98,117,100,103,101,116],dcN T.C1.toNat]++[10]):=rfl;simp only [drC,Tryz.f37,F9,I7,U9,V0,V6,V7];simp (maxSteps:=8000000) (disch:=first|exact dS|fail) only [↓bD,bU,reduceMul,reduceEqDiff,reduceAdd,Nat.reduceBEq,reduceIte,Option.isNone_none,A1,A7,g1,g4,g5,w1,s10,i1,PV,IV];refine (GG (Z0:=Z.new ca) (b:=Z.n+1) (t:=B7 T) (l:=[[98,117,100,103,101,116],dcN T.C1.toNat]) (bd.ext (.new _ _)) (ext.trans (.new _ _)) (by simp) rfl (Nat.le_refl _) (by simp [spJ] at len ⊢;omega) (by simp) (cL)).mono ?_;rintro r ⟨Z2,rfl,bd2,Cp,s2⟩;refine gU1 (a3N @A1 @A7 @g1) ?_;exact ⟨_,_,rfl,fR1 g1,fR1 g3,fR1 g4,fR1 g5,fR1 g53,fR1 g54,by rw [hB];exact bd2,by rw [hB];simp [spJ] at len ⊢;omega,Cp⟩
structure DW (Z:St) (ca:List Value) (T:Tn) (fr:Fr) (Z':St) (x:Nat):Prop where
 g1:fr.get 1=some (.pointer (some ⟨Z.n,0,none⟩))
 g3:fr.get 3=some (.pointer (some ⟨Z.n+1,0,none⟩))
 g4:fr.get 4=some (PV (Z.n+1))
 g5:fr.get 5=some IV
 g18:fr.get 18=some (.pointer (some ⟨x,0,none⟩))
 lt:x<Z'.n
 row:Z'.row x=some [.int .i64 T.t.q,.int .i64 T.t.b,.int .i64 T.t.g,.int .i64 T.t.p,.int .i64 T.t.s]
 bd:BDN Z' (Z.n+1) (B8 T) x
 len:(B8 T).length<=70100
 ext:Ext (Z.new ca) Z'
theorem pc {Z Z1:St}{fr1:Fr}{ca:List Value}{T:Tn}(hT:Ar Z ca T) (hr:Ad T) (hS:T.Sm) (hpw:Z.read 1 0 20=some P9) (hp1:1<Z.n) (h:DV Z ca (B8 T) 70100 fr1 Z1) :
  Ev (lim Tryz.prog HS none (drC [1,1,1,1,1,1,1,1,1,1,1,1,1,1,0]) fr1 Z1) (fun r=>∃ fr Z',r=⟨.normal,fr,Z'⟩/\∃ x,DW Z ca T fr Z' x) ⟨⟩:=by
 obtain ⟨vl,vc,vr,ex,vt,vk,hp,h2,h3,h4,h5,h6,vs,h7,h8⟩:=hT.parts;obtain ⟨g1,g3,g4,g5,g53,g54,bd,len,ext⟩:=h;have s15:=hp.p15;have E0:Ext Z (Z.new ca):=eX;have w1:Z1.row Z.n=some ca:=by rw [ext.row (by simp)];exact cL
 have hn1:=ext.n;simp only [N3] at hn1;have hE0:Ext Z Z1:=E0.trans ext;simp only [drC,Tryz.f37,F9,I7,U9,V0,V6,V7];refine gU1 (a5N @A1 @A7 @g1 @w1 @s15) ?_;exact ⟨_,_,rfl,Z1.n,fR1 g1,fR1 g3,fR1 g4,fR1 g5,fR,by simp,cL,bd.ext (eX),len,ext.trans (eX)⟩
theorem jU {Z Z1:St}{fr1:Fr}{ca:List Value}{T:Tn}{x:Nat}(hS:T.Sm) (hpw:Z.read 1 0 20=some P9) (hp1:1<Z.n) (h:DW Z ca T fr1 Z1 x) :
  Ev (lim Tryz.prog HS none (drC [1,1,1,1,1,1,1,1,1,1,1,1,1,1,1,0]) fr1 Z1) (fun r=>∃ fr Z',r=⟨.normal,fr,Z'⟩/\fr.get 3=some (.pointer (some ⟨Z.n+1,0,none⟩))/\BD Z' (Z.n+1) (Ae T)/\(Ae T).length<=70300/\Ext (Z.new ca) Z') ⟨⟩:=by
 obtain ⟨g1,g3,g4,g5,g18,lt,wS,bd,len,ext⟩:=h;have E0:Ext Z (Z.new ca):=eX;have hE0:Ext Z Z1:=E0.trans ext;obtain ⟨q1,q2,q3,q4,q5⟩:=hS.tim;have i1:=Ig q1 hpw hp1 hE0;have i2:=Ig q2 hpw hp1 hE0;have i3:=Ig q3 hpw hp1 hE0;have i4:=Ig q4 hpw hp1 hE0;have i5:=Ig q5 hpw hp1 hE0;have u1:=Bv q1;have u2:=Bv q2;have u3:=Bv q3;have u4:=Bv q4;have u5:=Bv q5;have hB:Ae T=B8 T++(spJ [[116,105,109,101,115],dcN T.t.q.toNat,dcN T.t.b.toNat,dcN T.t.g.toNat,dcN T.t.p.toNat,dcN T.t.s.toNat]++[10]):=by rw [Yp,<- List.append_assoc];rfl
 simp only [drC,Tryz.f37,F9,I7,U9,V0,V6,V7];simp (maxSteps:=8000000) (disch:=first|exact dS|fail) only [↓bD,bU,reduceMul,reduceEqDiff,reduceAdd,Nat.reduceBEq,reduceIte,Option.isNone_none,A1,A7,g4,g5,g18,wS,i1,i2,i3,i4,i5,PV,IV];refine (GG (Z0:=Z.new ca) (b:=Z.n+1) (t:=B8 T) (l:=[[116,105,109,101,115],dcN T.t.q.toNat,dcN T.t.b.toNat,dcN T.t.g.toNat,dcN T.t.p.toNat,dcN T.t.s.toNat]) (bd.ext (.new _ _)) (ext.trans (.new _ _)) (by simp) rfl (Nat.le_refl _) (by simp [spJ] at len ⊢;omega) (by simp) (cL)).mono ?_;rintro r ⟨Z2,rfl,bd2,Cp,s2⟩
 try simp (maxSteps:=8000000) (disch:=first|exact dS|fail) only [↓bD,bU,reduceMul,reduceEqDiff,reduceAdd,Nat.reduceBEq,reduceIte,Option.isNone_none,A1,A7,asx (Ext.refl _),FU (s2 x (.inr (Nat.le_refl _)) (by simp;omega))]
 try refine H3.intro (by (repeat first|simp (disch:=omega) only [B9,C9,C0,asx (Ext.refl _),FU (s2 x (.inr (Nat.le_refl _)) (by simp;omega))]|rw [D0 (by kernel_rfl)]);first|done|rfl) ?_
 try (refine gU1 (a3N @A1 @A7 @g3) ?_;try exact ⟨⟩)
 exact ⟨_,_,rfl,fR1 g3,by rw [hB];exact bd2,by rw [hB];simp [spJ] at len ⊢;omega,Cp⟩
theorem wF:drC []= .seq (drC [0]) (drC [1]):=by kernel_rfl
theorem wG:drC [1]= .seq (drC [1,0]) (drC [1,1]):=by kernel_rfl
theorem wH:drC [1,1]= .seq (drC [1,1,0]) (drC [1,1,1]):=by kernel_rfl
theorem wI:drC [1,1,1]= .seq (drC [1,1,1,0]) (drC [1,1,1,1]):=by kernel_rfl
theorem wJ:drC [1,1,1,1]= .seq (drC [1,1,1,1,0]) (drC [1,1,1,1,1]):=by kernel_rfl
theorem wK:drC [1,1,1,1,1]= .seq (drC [1,1,1,1,1,0]) (drC [1,1,1,1,1,1]):=by kernel_rfl
theorem wL:drC [1,1,1,1,1,1]= .seq (drC [1,1,1,1,1,1,0]) (drC [1,1,1,1,1,1,1]):=by kernel_rfl
theorem wM:drC [1,1,1,1,1,1,1]= .seq (drC [1,1,1,1,1,1,1,0]) (drC [1,1,1,1,1,1,1,1]):=by kernel_rfl
theorem wN:drC [1,1,1,1,1,1,1,1]= .seq (drC [1,1,1,1,1,1,1,1,0]) (drC [1,1,1,1,1,1,1,1,1]):=by kernel_rfl
theorem wO:drC [1,1,1,1,1,1,1,1,1]= .seq (drC [1,1,1,1,1,1,1,1,1,0]) (drC [1,1,1,1,1,1,1,1,1,1]):=by kernel_rfl
theorem po:drC [1,1,1,1,1,1,1,1,1,1]= .seq (drC [1,1,1,1,1,1,1,1,1,1,0]) (drC [1,1,1,1,1,1,1,1,1,1,1]):=by kernel_rfl
theorem pv:drC [1,1,1,1,1,1,1,1,1,1,1]= .seq (drC [1,1,1,1,1,1,1,1,1,1,1,0]) (drC [1,1,1,1,1,1,1,1,1,1,1,1]):=by kernel_rfl
theorem pw:drC [1,1,1,1,1,1,1,1,1,1,1,1]= .seq (drC [1,1,1,1,1,1,1,1,1,1,1,1,0]) (drC [1,1,1,1,1,1,1,1,1,1,1,1,1]):=by kernel_rfl
theorem px:drC [1,1,1,1,1,1,1,1,1,1,1,1,1]= .seq (drC [1,1,1,1,1,1,1,1,1,1,1,1,1,0]) (drC [1,1,1,1,1,1,1,1,1,1,1,1,1,1]):=by kernel_rfl
theorem py:drC [1,1,1,1,1,1,1,1,1,1,1,1,1,1]= .seq (drC [1,1,1,1,1,1,1,1,1,1,1,1,1,1,0]) (drC [1,1,1,1,1,1,1,1,1,1,1,1,1,1,1]):=by kernel_rfl
theorem pz:drC [1,1,1,1,1,1,1,1,1,1,1,1,1,1,1]= .seq (drC [1,1,1,1,1,1,1,1,1,1,1,1,1,1,1,0]) (drC [1,1,1,1,1,1,1,1,1,1,1,1,1,1,1,1]):=by kernel_rfl
theorem gF {Z:St}{ca:List Value}{T:Tn}(hT:Ar Z ca T) (hr:Ad T) (hS:T.Sm) (hpw:Z.read 1 0 20=some P9) (hp1:1<Z.n) :
  Ev (go Tryz.prog HS (.fn 37) [.agg ⟨ca⟩] Z) (fun r=>∃ Z',r=⟨false,str (Ae T),Z'⟩/\Ext Z Z') ⟨⟩:=by
 obtain ⟨vl,vc,vr,ex,vt,vk,hp,h2,h3,h4,h5,h6,vs,h7,h8⟩:=hT.parts;have hfa:=hp.all;have s0:=hp.p0;have L0:=Fk hr.name;have E0:Ext Z (Z.new ca):=eX;refine D7 (body:=drC []) Tryz.func37 (by kernel_rfl) rfl ?_;obtain ⟨X,hX⟩:∃ X,drC [1,1,1,1,1]=X:=⟨_,rfl⟩
 rw [wF,wG,wH,wI,wJ,hX];simp only [drC,Tryz.f37,F9,I7,U9,V0,V6,V7];refine gU1 (a4N @A1 @A7 @hfa @s0) ?_;have h0:BD ((Z.new ca).new [.pointer none,.slice none 0 0] (some 116)) (Z.n+1) []:=⟨by simp,Nat.le_refl _,GU (Z:=Z.new ca),.inl ⟨rfl,cL⟩⟩
 refine (Kg (Z0:=Z.new ca) (b:=Z.n+1) (t:=[]) (l:=[[116,101,110,100,101,114],T.name]) (h0.ext (.new _ _)) (eX) (by simp) rfl (Nat.le_refl _) (by simp [spJ];omega) (by simp) (cL)).mono ?_;rintro r ⟨Z1,rfl,bd1,AB6,s1⟩;refine gU1 (aI @A1 @A7) ?_;rw [<- hX];clear hX X h0;rw [wK];refine FA (fun fr Z'=>DV Z ca (B1 T) 2000 fr Z') (lV hT hr hS hpw hp1 ?_) ?_
 ·exact ⟨fR,fR,(by unfold PV;exact (fR)),(by unfold IV;exact (fR)),fR,fR,by exact bd1,by show ([]++(spJ [[116,101,110,100,101,114],T.name]++[10])).length<=_;simp [spJ];omega,AB6⟩
 clear bd1 AB6 s1;intro fr τ hd;rw [wL];refine FA (fun fr Z'=>DV Z ca (B2 T) 4000 fr Z') (jX hT hr hS hpw hp1 hd) ?_;clear hd;intro fr τ hd;rw [wM];refine FA (fun fr Z'=>DV Z ca (B3 T) 8000 fr Z') (kq hT hr hS hpw hp1 hd) ?_;clear hd;intro fr τ hd;rw [wN];refine FA (fun fr Z'=>DV Z ca (B3 T++nl (W6 (.BT T.low.toNat T.high.toNat))) 8100 fr Z') (dk hT hr hS hpw hp1 hd) ?_;clear hd;intro fr τ hd;rw [wO];refine FA (fun fr Z'=>DV Z ca (B4 T) 60000 fr Z') (sE hT hr hS hpw hp1 hd) ?_;clear hd;intro fr τ hd;rw [po];refine FA (fun fr Z'=>DV Z ca (B5 T) 62000 fr Z') (kT hT hr hS hpw hp1 hd) ?_;clear hd;intro fr τ hd;rw [pv];refine FA (fun fr Z'=>DV Z ca (B6 T) 62100 fr Z') (kU hT hr hS hpw hp1 hd) ?_;clear hd;intro fr τ hd;rw [pw];refine FA (fun fr Z'=>DV Z ca (B7 T) 70000 fr Z') (cE hT hr hS hpw hp1 hd) ?_;clear hd;intro fr τ hd;rw [px];refine FA (fun fr Z'=>DV Z ca (B8 T) 70100 fr Z') (cG hT hr hS hpw hp1 hd) ?_;clear hd;intro fr τ hd;rw [py];refine FA (fun fr Z'=>∃ x,DW Z ca T fr Z' x) (pc hT hr hS hpw hp1 hd) ?_;clear hd;rintro fr τ ⟨x,hw⟩;rw [pz];refine FA (fun fr Z'=>fr.get 3=some (.pointer (some ⟨Z.n+1,0,none⟩))/\BD Z' (Z.n+1) (Ae T)/\(Ae T).length<=70300/\Ext (Z.new ca) Z') (jU hS hpw hp1 hw) ?_;clear hw;rintro fr τ ⟨g3,bd,len,ext⟩;have hne:Ae T≠[]:=by rw [Yp];simp [nl]
 obtain ⟨τ2,e2,Cp⟩:=Zv bd ext (by simp) hne om;simp only [drC,Tryz.f37,F9,I7,U9,V0,V6,V7];refine gU1 (a5N @A1 @A7 @g3 @e2 @Tryz.results37) ?_;exact ⟨_,rfl,E0.trans Cp⟩
end Go.Proofs.T
