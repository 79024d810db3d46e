/- A builder of text; put. -/
import Derived.Test.YtbcanmagihejhaaGreatDoorSA
import Derived.Test.YtbcanmagihejhaaGreatDoorRC
import Derived.Test.YtbcanmagihejhaaGreatDoorRE
set_option linter.unusedSimpArgs false
set_option linter.unusedVariables false
set_option maxHeartbeats 32000000
set_option maxRecDepth 100000
namespace Go.Proofs.T
open Go Go.Ab
open Nat (reduceMul reduceEqDiff reduceAdd)
theorem LD {Z Z':St}{b:Nat}(h:Z'.h.get b=Z.h.get b):Z'.typ b=Z.typ b:=by
 show ob (Z'.h.get b) _=ob (Z.h.get b) _;rw [h]
theorem GU {Z:St}{cs:List Value}{t:Option TypeId}:(Z.new cs t).typ Z.n=t:=by
 show ob ((Z.new cs t).h.get Z.n) _=_;rw [M7,if_pos rfl];rfl
theorem SO {Z:St}{c b:Nat}{cs:List Value}:(Z.upd c cs).typ b=Z.typ b:=by
 show ob ((Z.upd c cs).h.get b) _=_;rw [J8];by_cases h:b=c
 ·subst h;rw [if_pos rfl];rfl
 ·rw [if_neg h];rfl
structure BDN (Z:St) (b:Nat) (t:By) (N:Nat):Prop where
 lt:b<N
 le:N<=Z.n
 typ:Z.typ b=some 116
 rows:(t=[]/\Z.A5 b=some [.pointer none,.slice none 0 0])\/∃ g,t≠[]/\Z.A5 b=some [.pointer (some ⟨b,0,none⟩),.slice (some ⟨g,0,some 1⟩) t.length t.length]/\b<g/\g<N/\Z.typ g=some 5/\Z.A5 g=some (J3 t)
abbrev BD (Z:St) (b:Nat) (t:By):Prop:=BDN Z b t Z.n
theorem BDN.ext {Z Z':St}{b N:Nat}{t:By}(h:BDN Z b t N) (hE:Ext Z Z'):BDN Z' b t N:=by
 obtain ⟨h1,hN,h2,h3⟩:=h;refine ⟨h1,Nat.le_trans hN hE.n,by rw [LD (hE.same b om)];exact h2,?_⟩;rcases h3 with ⟨a1,a2⟩|⟨g,a1,a2,a3,a4,a5,a6⟩
 ·exact .inl ⟨a1,by rw [hE.A5 om];exact a2⟩
 ·exact .inr ⟨g,a1,by rw [hE.A5 om];exact a2,a3,a4,by rw [LD (hE.same g om)];exact a5,by rw [hE.A5 om];exact a6⟩
theorem BDN.up {Z:St}{b N:Nat}{t:By}(h:BDN Z b t N):BD Z b t:=by
 obtain ⟨h1,hN,h2,h3⟩:=h;refine ⟨om,Nat.le_refl _,h2,?_⟩;rcases h3 with h|⟨g,a1,a2,a3,a4,a5,a6⟩
 ·exact .inl h
 ·exact .inr ⟨g,a1,a2,a3,om,a5,a6⟩
def BR (Z:St) (N b:Nat) (t:By) (v:Value):Prop:=(t=[]/\v= .slice none 0 0)\/∃ g,t≠[]/\v= .slice (some ⟨g,0,some 1⟩) t.length t.length/\b<g/\g<N/\Z.typ g=some 5/\Z.A5 g=some (J3 t)
theorem AB4 {Z:St}{b N:Nat}{t:By}(h:BDN Z b t N):∃ Z' v,go Tryz.prog HS (.fn 110) [.pointer (some ⟨b,0,none⟩)] Z=some ⟨false,.tuple ⟨[]⟩,Z'⟩/\C5 b Z Z'/\Z'.n=Z.n/\Z'.typ b=some 116/\Z'.A5 b=some [.pointer (some ⟨b,0,none⟩),v]/\BR Z' N b t v:=by
 obtain ⟨h1,hN,h2,h3⟩:=h;rcases h3 with ⟨a1,a2⟩|⟨g,a1,a2,a3,a4,a5,a6⟩
 ·refine ⟨Z.upd b [.pointer (some ⟨b,0,none⟩),.slice none 0 0],.slice none 0 0,?_,C5.refl.upd _,rfl,by rw [SO];exact h2,cL,.inl ⟨a1,rfl⟩⟩;have r1:Z.read b 0 2=some [.pointer none,.slice none 0 0]:=by rw [y0,A8 a2];rfl
  have w1:Z.write b 0 [.pointer (some ⟨b,0,none⟩)]=some (Z.upd b [.pointer (some ⟨b,0,none⟩),.slice none 0 0]):=by rw [Jb,a2];rfl
  show ckF [.pointer (some ⟨b,0,none⟩)] Z=_;show ob (Z.typ b) _=_;rw [h2];show ob (Z.read b 0 2) _=_;rw [r1];show ob (Z.write b 0 [.pointer (some ⟨b,0,none⟩)]) _=_;rw [w1];rfl
 ·refine ⟨Z,.slice (some ⟨g,0,some 1⟩) t.length t.length,?_,.refl,rfl,h2,a2,.inr ⟨g,a1,rfl,a3,a4,a5,a6⟩⟩;have r1:Z.read b 0 2=some [.pointer (some ⟨b,0,none⟩),.slice (some ⟨g,0,some 1⟩) t.length t.length]:=by rw [y0,A8 a2];rfl
  show ckF [.pointer (some ⟨b,0,none⟩)] Z=_;show ob (Z.typ b) _=_;rw [h2];show ob (Z.read b 0 2) _=_;rw [r1];show bb (Nat.beq b b) _=_;rw [MU rfl];rfl
theorem cF {Z:St}{b N:Nat}{t s:By}{v:Value}(hN:N<=Z.n) (hv:BR Z N b t v) (hs:s≠[]) (hl:(t++s).length<=1000000) :
  ∃ Z',BN Tryz.prog Z 43 v (str s)=some (.slice (some ⟨Z.n,0,some 1⟩) (t++s).length (t++s).length,Z')/\Z'.n=Z.n+1/\Z'.typ Z.n=some 5/\Z'.A5 Z.n=some (J3 (t++s))/\∀ c,(c<=b\/N<=c)->c<Z.n->Z'.h.get c=Z.h.get c:=by
 have hs0:0<s.length:=List.length_pos_iff.2 hs;rw [List.length_append] at hl;have UU:Y7 Z 1 (str s)=some (s.length,J3 s):=rfl;have hba:∀ x y:By,J3 (x++y)=J3 x++J3 y:=fun x y=>by unfold J3;simp
 have hbl:∀ x:By,(J3 x).length=x.length:=fun x=>by unfold J3;simp
 rcases hv with ⟨rfl,rfl⟩|⟨g,a1,rfl,a3,a4,a5,a6⟩
 ·refine ⟨Z.new (J3 s) (some 5),?_,rfl,GU,K5 (Nat.le_refl _) (Nat.le_refl _),fun c _ hc=>by rw [M7,if_neg om]⟩;rw [J0,UU,C6,Hu,Ie om,o9,EL (by unfold room;simp at hl;omega),j0,RS];rfl
 ·have k1:Z.kill g=some (Z.dead g):=by rw [MT,a6];rfl
  have r1:Z.read g 0 (t.length*1)=some (J3 t):=by rw [y0,A8 a6];exact D6 (by rw [hbl];omega) (by rw [hbl];omega)
  have hk:JP 5 0 (Z.typ g)=some 5:=by rw [a5];rfl
  refine ⟨(Z.dead g).new (J3 t++J3 s) (some 5),?_,rfl,GU (Z:=Z.dead g),?_,fun c hc1 hc=>?_⟩
  ·rw [J0,UU,C6,Hu,Ie om,o9,EL (by unfold room;omega),j0,RT,r1,C6,k1,C6,hk,List.length_append];rfl
  ·rw [hba];exact K5 (Z:=Z.dead g) (Nat.le_refl _) (Nat.le_refl _)
  ·rw [M7,if_neg (by rw [Ku];omega),DT,if_neg om]
theorem pa {Z0 Z:St}{b N:Nat}{t s:By}(h:BDN Z b t N) (hE:Ext Z0 Z) (hb:Z0.n<=b) (hs:s≠[]) (hl:(t++s).length<=1000000) :
  Ev (go Tryz.prog HS (.fn 65) [.pointer (some ⟨b,0,none⟩),str s] Z) (fun r=>∃ Z' v,r=⟨false,v,Z'⟩/\BD Z' b (t++s)/\Ext Z0 Z'/\∀ c,N<=c->c<Z.n->Z'.h.get c=Z.h.get c) ⟨⟩:=by
 obtain ⟨Z1,v,e1,x1,n1,t1,o1,b1⟩:=AB4 h;obtain ⟨Z2,e2,n2,t2,o2,s2⟩:=cF (by rw [n1];exact h.le) b1 hs hl;have hlt:=h.lt;have hle:=h.le;have rr:=A8 o1;have o3:Z2.A5 b=some [.pointer (some ⟨b,0,none⟩),v]:=by rw [A6 (s2 b (.inl (Nat.le_refl _)) om)];exact o1
 refine D7 Tryz.func65 rfl rfl ?_;refine gS1 (a6N @e1 @rr @o1 @e2 @o3 @Tryz.results65) ?_;have lx:b<Z2.n:=om;have gt:t++s≠[]:=by simp [hs]
 refine ⟨_,_,rfl,⟨by show b<Z2.n;omega,Nat.le_refl _,?_,.inr ⟨Z1.n,gt,cL,om,by show Z1.n<Z2.n;omega,?_,?_⟩⟩,?_,?_⟩
 ·rw [SO,LD (s2 b (.inl (Nat.le_refl _)) om)];exact t1
 ·rw [SO];exact t2
 ·rw [D1 om];exact o2
 ·refine ⟨by have:=hE.n;show Z0.n<=Z2.n;omega,fun c hc=>?_⟩;have hn:=hE.n;rw [J8,if_neg om,s2 c (.inl om) om,x1.same c om om,hE.same c hc]
 ·intro c c1 c2;rw [J8,if_neg om,s2 c (.inr c1) om,x1.same c c2 om]
theorem pb (l:List By):Ny (l.map str)=some l:=by
 induction l with
 | nil=>rfl
 | cons x l ih=>exact (congrArg (fun z=>ob z fun r=>some (x::r)) ih).trans rfl
theorem jS (l:List By):QJ [32] l=blk l:=by
 induction l with
 | nil=>rfl
 | cons x l ih =>
   show [32]++(x++QJ [32] l)=_;rw [ih];simp [blk]
theorem jT (l:List By):QK l [32]=spJ l:=by
 cases l with
 | nil=>rfl
 | cons x l=>rw [NL,<- jS];rfl
theorem join_eq {Z:St}{w c:Nat}{sp:Option Nat}{l:List By}(hc:l.length<=c) (hl:(spJ l).length<=1000000) (hn:l.length<=1000000) (hr:Z.read w 0 l.length=some (l.map str)) :
  go Tryz.prog HS (.fn 66) [.slice (some ⟨w,0,sp⟩) l.length c,str [32]] Z=some ⟨false,str (spJ l),Z⟩:=by
 show bb (Nat.ble l.length c) (bb (Nat.ble l.length room) (ob (Z.read w 0 l.length) fun cs=>ob (Ny cs) fun l=>bb (Nat.ble (QK l [32]).length room) (some (⟨false,str (QK l [32]),Z⟩:CR))))=_;rw [Nat.ble_eq_true_of_le hc,j0,Nat.ble_eq_true_of_le (show l.length<=room by unfold room;omega),j0,hr,C6,pb,C6,jT,Nat.ble_eq_true_of_le (show (spJ l).length<=room by unfold room;omega),j0]
theorem Kg {Z0 Z:St}{b w n c N:Nat}{sp:Option Nat}{t:By}{l:List By}(h:BDN Z b t N) (hE:Ext Z0 Z) (hb:Z0.n<=b) (hn:n=l.length) (hc:n<=c) (hl:(t++(spJ l++[10])).length<=1000000) (hn6:l.length<=1000000) (hr:Z.row w=some (l.map str)) :
  Ev (go Tryz.prog HS (.fn 64) [.slice (some ⟨w,0,sp⟩) n c,.pointer (some ⟨b,0,none⟩)] Z) (fun r=>∃ Z',r=⟨false,.tuple ⟨[]⟩,Z'⟩/\BD Z' b (t++(spJ l++[10]))/\Ext Z0 Z'/\∀ c,N<=c->c<Z.n->Z'.h.get c=Z.h.get c) ⟨⟩:=by
 subst hn;have hl0:=hl;simp only [List.length_append,List.length_cons,List.length_nil] at hl;have hj:=join_eq (Z:=Z) (w:=w) (c:=c) (sp:=sp) (l:=l) hc om hn6 (by rw [y0,hr];exact D6 (by simp) (by simp));refine D7 Tryz.func64 rfl rfl ?_;refine gS1 @hj ?_;refine (pa h hE hb (s:=spJ l++[10]) (by simp) hl0).mono ?_;rintro r ⟨Z2,v,rfl,h2,hE2,hs2⟩;refine gS1 @Tryz.results64 ?_;exact ⟨_,rfl,h2,hE2,hs2⟩
theorem FU {a b:St}{bs:List Nat}{i j X off n:Nat}{ds:List Ab.Trace}(h:b.h.get X=a.h.get X):M1 bs i ⟨X,off,n⟩ (.eff j a b::ds)=M1 bs i ⟨X,off,n⟩ ds:=Gw fun _=>h
end Go.Proofs.T
namespace Go.Proofs.T
open Go Go.Ab
theorem eM (l:By):Ki (J3 l)=some l:=by
 induction l with
 | nil=>rfl
 | cons x l ih =>
   have hx:TQ (.int .u8 (x.toNat:Nat))=some x:=by
    show bb (Nat.blt x.toNat 256) (some (UInt8.ofNat x.toNat))=_;rw [show Nat.blt x.toNat 256=true from by rw [Nat.blt_eq];exact UInt8.toNat_lt x,j0];simp
   show ob (TQ (.int .u8 (x.toNat:Nat))) (fun b=>ob (Ki (J3 l)) fun bs=>some (b::bs))=_;rw [hx,C6,ih];rfl
theorem Zv {Z0 Z:St}{b:Nat}{t:By}(h:BD Z b t) (hE:Ext Z0 Z) (hb:Z0.n<=b) (ht:t≠[]) (hl:t.length<=1000000) :
  ∃ Z',go Tryz.prog HS (.fn 68) [.pointer (some ⟨b,0,none⟩)] Z=some ⟨false,str t,Z'⟩/\Ext Z0 Z':=by
 obtain ⟨h1,-,h2,h3⟩:=h;rcases h3 with ⟨a1,a2⟩|⟨g,a1,a2,a3,a4,a5,a6⟩
 ·exact absurd a1 ht
 ·have r1:Z.read b 0 2=some [.pointer (some ⟨b,0,none⟩),.slice (some ⟨g,0,some 1⟩) t.length t.length]:=by rw [y0,A8 a2];rfl
  have hbl:(J3 t).length=t.length:=by unfold J3;simp
  have r2:Z.read g 0 t.length=some (J3 t):=by rw [y0,A8 a6];exact D6 om om
  have k1:Z.kill g=some (Z.dead g):=by rw [MT,a6];rfl
  have hn:=hE.n;refine ⟨Z.dead g,?_,⟨hE.n,fun c hc=>by rw [DT,if_neg om];exact hE.same c hc⟩⟩;obtain ⟨n,hN⟩:∃ n,t.length=n+1:=⟨t.length-1,by have:=List.length_pos_iff.2 ht;omega⟩
  rw [hN] at r1 r2;show lS [.pointer (some ⟨b,0,none⟩)] Z=_;show ob (Z.typ b) _=_;rw [h2];show ob (Z.read b 0 2) _=_;rw [r1];show ob (Z.typ g) _=_;rw [a5];show bb (Nat.ble (n+1) (n+1)) (bb (Nat.ble n room) (ob (Z.read g 0 (n+1)) fun cs=>ob (Ki cs) fun l=>ob (Z.kill g) fun Z=>some (⟨false,.string ⟨l.toArray⟩,Z⟩:CR)))=_;rw [Nat.ble_eq_true_of_le (Nat.le_refl _),j0,Nat.ble_eq_true_of_le (show n<=room by unfold room;omega),j0,r2,C6,eM,C6,k1];rfl
section
variable {P:Program} {H:CZ} {rd:Option Nat}
theorem dE {k:Nat}{l:List Oper}{fr:Fr}{Z:St}{Q:Res->Prop}{u:Hd Q}{g:Gh}{kv V:Value}(hs:CD l=true) (hg:eN l=some g) (h1:fr.get g.tm=none) (h2:fr.get g.tv=none)
  (hV:Ss P g kv=some V) (hok:(dD l (T2 l V) g&&Gp (T2 l V).toArray)=true)
  (hA:Ev (I6 P (go P H) (T2 l (.string ⟨#[]⟩)).toArray (T2 l (.string ⟨#[]⟩)) 0 fr Z []) (fun r=>r.fr.get g.key=some kv) ⟨⟩)
  (hkv:veq kv kv=true)
  (hB:Ev (I6 P (go P H) (T2 l V).toArray (T2 l V) 0 fr Z []) (fun r=>H3 (u9 (Region.before (T2 l V).toArray).toList r.ds r.ds) (r.p=none/\r.fr.get g.key=some kv/\Q ⟨.normal,r.fr,r.Z⟩) ⟨⟩) ⟨⟩) :
  Ev (lim P H rd (.region k l.toArray true) fr Z) Q u:=by
 have e:lim P H rd (.region k l.toArray true) fr Z=bi (CD l.toArray.toList) (JV P (go P H) l.toArray.toList fr Z) (drawn l.toArray (I6 P (go P H) l.toArray l.toArray.toList 0 fr Z [])):=(FV ..).trans rfl;rw [e,show l.toArray.toList=l from rfl,hs,I8];obtain ⟨r0,a1,a2⟩:=hA;obtain ⟨r,b1,b2,b3,b4,b5⟩:=hB;refine Ev.intro (a:=⟨.normal,r.fr,r.Z⟩) ?_ b5;obtain ⟨fr',Z',ds,pp⟩:=r;cases b3;show ob (eN l) _=_;rw [hg,C6];show bb ((fr.get g.tm).isNone&&(fr.get g.tv).isNone) _=_;rw [h1,h2];show ob _ _=_;rw [a1,C6,a2,C6,hV,C6,hok,j0,b1,C6];show bb (u9 (Region.before (T2 l V).toArray).toList ds ds&&true) (ob (fr'.get g.key) fun kv'=>bb (veq kv' kv) (some (⟨.normal,fr',Z'⟩:Res)))=_;rw [b2,b4];show bb (veq kv kv) _=_;rw [hkv];rfl
end
end Go.Proofs.T
namespace Go.Proofs.T
open Go Go.Ab
open Nat (reduceMul reduceEqDiff reduceAdd)
def PV (b:Nat):Value:= .func (.func 64) #[] #[.pointer (some ⟨b,0,none⟩)]
def IV:Value:= .func (.func 67) #[] #[]
structure DV (Z:St) (ca:List Value) (t:By) (m:Nat) (fr:Fr) (Z':St):Prop where
 g1:fr.get 1=some (.pointer (some ⟨Z.n,0,none⟩))
 g3:fr.get 3=some (.pointer (some ⟨Z.n+1,0,none⟩))
 g4:fr.get 4=some (PV (Z.n+1))
 g5:fr.get 5=some IV
 g53:fr.get 53=none
 g54:fr.get 54=none
 bd:BD Z' (Z.n+1) t
 len:t.length<=m
 ext:Ext (Z.new ca) Z'
theorem Ig {Z Z':St}{n:Int}(hn:SmN n) (hp:Z.read 1 0 20=some P9) (h1:1<Z.n) (hE:Ext Z Z'):go Tryz.prog HS (.fn 67) [.int .i64 n] Z'=some ⟨false,str (dcN n.toNat),Z'⟩:=by
 obtain ⟨N,rfl⟩:=Int.eq_ofNat_of_zero_le hn.1;have h2:=hn.2;exact Vy om (An hE h1 hp)
noncomputable def drC (l:List Nat):Code:=Gd l ((Tryz.f37).body.getD .skip)
theorem lV {Z Z1:St}{fr1:Fr}{ca:List Value}{T:Tn}(hT:Ar Z ca T) (hr:Ad T) (hS:T.Sm) (hpw:Z.read 1 0 20=some P9) (hp1:1<Z.n) (h:DV Z ca (B0 T) 200 fr1 Z1) :
  Ev (lim Tryz.prog HS none (drC [1,1,1,1,1,0]) fr1 Z1) (fun r=>∃ fr Z',r=⟨.normal,fr,Z'⟩/\DV Z ca (B1 T) 2000 fr Z') ⟨⟩:=by
 obtain ⟨vl,vc,vr,ex,vt,vk,hp,h2,h3,h4,h5,h6,vs,h7,h8⟩:=hT.parts;obtain ⟨la,lc,lb,lo,lcs,rfl,l1,l2⟩:=h2.use;have L1:=hr.D2;have s1:=hp.p1;have E0:Ext Z (Z.new ca):=eX;have w1:Z1.row Z.n=some ca:=by rw [h.ext.row (by simp)];exact cL
 have g1:=h.g1;simp only [drC,Tryz.f37,F9,I7,U9,V0,V6,V7];refine gU1 (a5N @A1 @A7 @g1 @w1 @s1) ?_
 refine L8 T.D2.length (fun k fr Z'=>fr.get 28=some (.int .i64 k)/\fr.get 27=some (.int .i64 (T.D2.length:Nat))/\fr.get 26=some (.slice la T.D2.length lc)/\DV Z ca (B0 T++under ((T.D2.take k).map gl)) (200+100*k) fr Z')
  (fun r=>∃ fr Z',r=⟨.exit 0,fr,Z'⟩/\DV Z ca (B1 T) 2000 fr Z') ?_ ?_ ?_ ?_
 ·obtain ⟨g1,g3,g4,g5,g53,g54,bd,len,ext⟩:=h;exact ⟨fR,fR,fR,fR1 g1,fR1 g3,fR1 g4,fR1 g5,fR1 g53,fR1 g54,by rw [Ba,List.append_nil];exact bd,by rw [Ba,List.append_nil];omega,ext⟩
 ·rintro k fr Z' hk ⟨gk,gn,gs,g1,g3,g4,g5,g53,g54,bd,len,ext⟩;have hc:=O9 hk;have hE0:Ext Z Z':=E0.trans ext;obtain ⟨x,hx⟩:=H8 hk;obtain ⟨sp,rfl,l3,l4⟩:=l1 om;have w2:Z'.row lb=some lcs:=by rw [hE0.row l3];exact l4
  obtain ⟨m0,m1,m2⟩:=l2 k x hx;obtain ⟨z1,z2⟩:=hS.lot x (List.mem_of_getElem? hx);have hu1:=Bv z1;have hu2:=Bv z2;unfold Lot.row at m0;simp (maxSteps:=8000000) (disch:=first|exact dS|fail) only [↓bD,bU,reduceMul,reduceEqDiff,reduceAdd,Nat.reduceBEq,reduceIte,Option.isNone_none,A1,A7,gk,gn,gs,g1,g3,g4,g5,hc,w2,m0,IV,PV];obtain ⟨S,hS'⟩:∃ S,((Z'.new [.int .i64 0,.int .i64 0] (some 78)).upd Z'.n [.int .i64 x.id,.int .i64 x.D5])=S:=⟨_,rfl⟩
  rw [hS'];have E1:Ext Z' S:=by rw [<- hS'];exact eX
  have nS:S.n=Z'.n+1:=by rw [<- hS'];rfl
  have wS:S.row Z'.n=some [.int .i64 x.id,.int .i64 x.D5]:=by rw [<- hS'];exact cL
  have i1:=Ig z1 hpw hp1 (hE0.trans E1);have i2:=Ig z2 hpw hp1 (hE0.trans E1);simp (maxSteps:=8000000) (disch:=first|exact dS|fail) only [↓bD,bU,reduceMul,reduceEqDiff,reduceAdd,Nat.reduceBEq,reduceIte,Option.isNone_none,A1,A7,gk,gn,gs,g1,g3,g4,g5,wS,i1,i2,IV,PV];refine (Kg (Z0:=Z.new ca) (b:=Z.n+1) (t:=B0 T++under ((T.D2.take k).map gl)) (l:=[[108,111,116],dcN x.id.toNat,[109,111,115,116],dcN x.D5.toNat]) (bd.ext (E1.trans (.new _ _))) (ext.trans (E1.trans (.new _ _))) (by simp) rfl (Nat.le_refl _) (by simp [spJ] at len ⊢;omega) (by simp) (cL)).mono ?_;rintro r ⟨Z2,rfl,bd2,Cp,s2⟩;simp (maxSteps:=8000000) (disch:=first|exact dS|fail) only [↓bD,bU,reduceMul,reduceEqDiff,reduceAdd,Nat.reduceBEq,reduceIte,Option.isNone_none,A1,A7,gk,gn,gs,g1,g3,g4,g5,wS,asx (Ext.refl _),FU (s2 Z'.n (Nat.le_refl _) (by simp;omega))]
  try refine H3.intro (by (repeat first|simp (disch:=omega) only [B9,C9,C0,asx (Ext.refl _),FU (s2 Z'.n (Nat.le_refl _) (by simp;omega))]|rw [D0 (by kernel_rfl)]);first|done|rfl) ?_
  try simp (maxSteps:=8000000) (disch:=first|exact dS|fail) only [↓bD,bU,reduceMul,reduceEqDiff,reduceAdd,Nat.reduceBEq,reduceIte,Option.isNone_none,A1,A7,gk,gn,gs,g1,g3,g4,g5]
  have ht:B0 T++under ((T.D2.take (k+1)).map gl)=B0 T++under ((T.D2.take k).map gl)++(spJ [[108,111,116],dcN x.id.toNat,[109,111,115,116],dcN x.D5.toNat]++[10]):=by rw [GJ hx];simp [gl,W6,spJ,LM.word,LM.txt,XZ]
  exact ⟨fR,fR1 gn,fR1 gs,fR1 g1,fR1 g3,fR1 g4,fR1 g5,fR1 g53,fR1 g54,by rw [ht];exact bd2,by rw [ht];simp [spJ] at len ⊢;omega,Cp⟩
 ·rintro fr Z' ⟨gk,gn,gs,g1,g3,g4,g5,g53,g54,bd,len,ext⟩;simp (maxSteps:=8000000) (disch:=first|exact dS|fail) only [↓bD,bU,reduceMul,reduceEqDiff,reduceAdd,Nat.reduceBEq,reduceIte,Option.isNone_none,A1,A7,gk,gn];exact ⟨_,_,rfl,fR1 g1,fR1 g3,fR1 g4,fR1 g5,fR1 g53,fR1 g54,by rw [Bb] at bd;exact bd,by rw [Bb] at len;show (B0 T++under (T.D2.map gl)).length<=_;omega,ext⟩
 rintro r ⟨fr,Z',rfl,h⟩;refine gU1 (aI @A1 @A7) ?_;exact ⟨_,_,rfl,h⟩
def opsOf:Code->List Oper
 | .region _ os _=>os.toList
 | _=>[]
theorem Qt {fr:Fr}{t:By}:ev fr (.const (str t))=some (str t):=rfl
noncomputable def drL:List Oper:=opsOf (drC [1,1,1,1,1,1,0,1,2,3,1,1,0,2,1,0])
def G0:Gh:=⟨53,54,56,124,.int .i64 1,str [103,114,97,100,101],.int .i64 2,str [111,102,102,101,114]⟩
theorem kI {n:Int}(h:n=1\/n=2):∃ t:By,t.length=5/\t=(if n.toNat=2 then BU else Cv)/\Ss Tryz.prog G0 (.int .i64 n)=some (str t)/\(dD drL (T2 drL (str t)) G0&&Gp (T2 drL (str t)).toArray)=true/\veq (.int .i64 n) (.int .i64 n)=true:=by
 rcases h with rfl|rfl
 ·exact ⟨[103,114,97,100,101],rfl,rfl,by kernel_rfl,by kernel_rfl,by kernel_rfl⟩
 ·exact ⟨[111,102,102,101,114],rfl,rfl,by kernel_rfl,by kernel_rfl,by kernel_rfl⟩
theorem AF1 {S:St}{fr:Fr}{X:Nat}{nm:By}{kd lw hg:Int}{ls:Bool}(g9:fr.get 9=some (.pointer (some ⟨X,0,none⟩))) (g5:fr.get 5=some IV) (wS:S.row X=some [str nm,.int .i64 kd,.int .i64 lw,.int .i64 hg,.bool ls])
  {a b:By} (i1:go Tryz.prog HS (.fn 67) [.int .i64 lw] S=some ⟨false,str a,S⟩) (i2:go Tryz.prog HS (.fn 67) [.int .i64 hg] S=some ⟨false,str b,S⟩) :
  Ev (I6 Tryz.prog (go Tryz.prog HS) (T2 drL (str [])).toArray (T2 drL (str [])) 0 fr S []) (fun r=>r.fr.get 56=some (.int .i64 kd)) ⟨⟩:=by
 simp only [drL,drC,Tryz.f37,F9,I7,U9,V0,V6,V7,opsOf,List.toList_toArray,T2,CW,LO];unfold IV at g5;refine gU1 (a8N @A1 @A7 @g9 @g5 @wS @i1 @i2 @Qt) ?_;try exact ⟨⟩
theorem xD {S:St}{fr:Fr}{X:Nat}{nm:By}{kd lw hg:Int}{ls:Bool}(g9:fr.get 9=some (.pointer (some ⟨X,0,none⟩))) (g5:fr.get 5=some IV) (g53:fr.get 53=none) (g54:fr.get 54=none) (wS:S.row X=some [str nm,.int .i64 kd,.int .i64 lw,.int .i64 hg,.bool ls])
  {a b t:By} (i1:go Tryz.prog HS (.fn 67) [.int .i64 lw] S=some ⟨false,str a,S⟩) (i2:go Tryz.prog HS (.fn 67) [.int .i64 hg] S=some ⟨false,str b,S⟩)
  (hV:Ss Tryz.prog G0 (.int .i64 kd)=some (str t)) (hok:(dD drL (T2 drL (str t)) G0&&Gp (T2 drL (str t)).toArray)=true) (hkv:veq (.int .i64 kd) (.int .i64 kd)=true) :
  Ev (lim Tryz.prog HS none (.region 13 drL.toArray true) fr S) (fun r=>∃ fr',r=⟨.normal,fr',S.new [str [99,114,105,116,101,114,105,111,110],str nm,str t,str a,str b]⟩/\fr'.get 10=some (.slice (some ⟨S.n,0,none⟩) 5 5)/\∀ i,i<10\/i=45\/i=46\/i=47\/i=53\/i=54->fr'.get i=fr.get i) ⟨⟩:=by
 refine dE (g:=G0) (kv:= .int .i64 kd) (V:=str t) rfl (by kernel_rfl) g53 g54 hV hok (AF1 g9 g5 wS i1 i2) hkv ?_;simp only [drL,drC,Tryz.f37,F9,I7,U9,V0,V6,V7,opsOf,List.toList_toArray,T2,CW,LO];unfold IV at g5;refine gU1 (a8N @A1 @A7 @g9 @g5 @wS @i1 @i2 @Qt) ?_;refine H3.intro (by (repeat first|simp (disch:=omega) only [B9,C9,C0,asx (Ext.refl _)]|rw [D0 (by kernel_rfl)]);first|done|rfl) ?_;refine ⟨rfl,?_⟩;refine gU1 (aI @A1 @A7) ?_;have hk:G0.key=56:=rfl;refine ⟨by simp only [hk,Nat.reduceEqDiff,reduceIte],_,rfl,fR,fun i hi=>?_⟩
 iterate 15 rw [L7,if_neg om]
end Go.Proofs.T
