/- types: Range and Unit. -/
import Derived.Test.YtgjocfjdecjhoaaGreatDoorITVB
set_option linter.unusedSimpArgs false
set_option linter.unusedVariables false
set_option linter.defProp false
set_option maxHeartbeats 32000000
set_option maxRecDepth 100000
namespace Go.Proofs.T
open Go Go.Ab Go.N9
section
variable {Z:St}{e:Ex}{b:Option Nat}{w:Nat}{row ca:List Value}{T:Tn}
def AK2:DX (.map b)=false:=rfl
def oa:J6 (.map b)=[.map b]:=rfl
def Ve (l:WfE w e) (g:w<=4) (h:P8 Z row e) (k:Z.read 0 0 20=some AO) (j:0<Z.n):
  Ev (gO 33 [.agg ⟨row⟩] Z) (fun r=>∃ Z',r=⟨false,.bool (AF e),Z'⟩/\Ext Z Z') ⟨⟩:=by
 have i:=h.len;have d:sub row 0 5=some row:=C9 om om;refine C8 Tryz.func33 rfl rfl ?_;refine gS1 d ?_;have a:Ext Z (Z.new row):=eX;refine(oQ l g (h.mono a) (CB a j k) (by simp)).mono ?_;rintro r ⟨m,rfl,c⟩;have key:decide ((if AF e=true then K6 12 0 e else[])=([]:By))= !AF e:=by
  cases f:AF e with
  |false=>rfl
  | true=>
    rw[z1z rfl];exact z4z (nI (IM f).1 (IM f).2.1 (IM f).2.2).2.1
 refine gS1 (aI key @Tryz.results33) ?_;exact⟨_,by rw[Bool.not_not],a.trans c⟩
def au (h:AF e=true):SG e/\AR e<=12:=by
 unfold AF at h;simp only[R2,EO]at h;exact⟨⟨h.1.1,h.1.2⟩,h.2⟩
def xO {pt pm b c:Nat}(l:BdT T) (s:Jb Z ca T) (u:T.G7.length<=1000) (i:pt<Z.n) (p:Z.A7 pt=some ca) (j:pm<Z.n) (q:Z.A7 pm=some [.map (some b)]) (r:WA Z b c):
  FF4 Z (U7 T) 38 40 [DB pt] [DB pm] where
 leaf:=fun{z op nm n d a c} f g=>by
  rw[AD];exact uz ⟨Pj,VN⟩ (s.mono f) u (z5z i f.n) (by rw[f.A7 i];exact p)
 node:=fun{z op a b x y} f v g m o=>by
  rw[Ax,m,o];exact wZ v (Tc l (g.at (k:=0) rfl) m) (Tc l (g.at (k:=1) rfl) o) (z5z j f.n) (by rw[f.A7 j];exact q) (r.ext f)
 err:=bT
 nz:=fun g h=>bS g h
def oE (p:QQ×Int):Value:= .tuple ⟨[qv p.1.1,qv p.1.2,.int .i64 p.2]⟩
def Vv (V:BdT T) (J:Jb Z ca T) (Y:T.G7.length<=1000) (hw:WfE w e) (E:w<=4) (B:P8 Z row e) (hp:Z.read 0 0 20=some AO) (U:0<Z.n):
  Ev (gO 12 [.agg ⟨ca⟩,.agg ⟨row⟩] Z) (fun r=>∃ Z',r=⟨false,oE (Me T e),Z'⟩/\Ext Z Z') ⟨⟩:=by
 have K:=B.len;have s:sub row 0 5=some row:=C9 om om;have N:=J.len;have C:sub ca 0 20=some ca:=C9 om om;refine C8 Tryz.func12 rfl rfl ?_;refine gS1 (aI s C) ?_;obtain⟨S1,a⟩:=nW (((((Z.new ca).new row).new [.int .i64 0,.int .i64 0] (some 29)).new [.int .i64 0,.int .i64 0] (some 29)));have y:Ext Z S1:=by rw[<- a];exact eX
 have n1:S1.n=Z.n+4:=by rw[<- a];rfl
 have u:S1.A7 Z.n=some ca:=by rw[<- a];exact cL
 have v:S1.A7 (Z.n+1)=some row:=by rw[<- a];exact cL
 have o:S1.A7 (Z.n+2)=some [.int .i64 0,.int .i64 0]:=by rw[<- a];exact cL
 have p:S1.A7 (Z.n+3)=some [.int .i64 0,.int .i64 0]:=by rw[<- a];exact cL
 rw[a];refine(Ve hw E (B.mono y) (CB y U hp) om).mono ?_;rintro r ⟨Z2,rfl,d⟩;have k2:=d.n;have I:=y.trans d;have u:=eT (d.A7 om) u;have v:=eT (d.A7 om) v;have o:=eT (d.A7 om) o;have p:=eT (d.A7 om) p;have F:=A9 u;have G:=A9 v;have l:=A9 o;have m:=A9 p;unfold Me;cases hr:AF e with
 | false=>
   rw[z0z (by decide)];unfold oE qv P6;refine gS1 (aI l (aI m (aI o p))) ?_;refine Ct.intro (by(repeat first|simp(disch:=omega) only[O4,G6,G9]|rw[W6 (by kernel_rfl)]);rfl) ?_;refine gS1 (aI l (aI m (aI o (aI p @Tryz.results12)))) ?_;exact⟨_,rfl,(I.upd om _).upd om _⟩
 | true=>
   rw[z1z rfl];refine gS1 (aI F (aI G (aI l m))) ?_;refine Wb.mono ?_;rintro r ⟨b,c,i,rfl,f,X,A,W,o1,o2,o3⟩;have k3:=f.n;have O:=I.trans f;have S:WA i b c:=⟨X,A,W,o1,o2,o3⟩
   have u1:=eT (f.A7 om) u;have u2:=eT (f.A7 om) v;have u3:=eT (f.A7 om) o;have u4:=eT (f.A7 om) p;have H:=A9 u2;refine gS1 (aI H (aI s (aI @AK2 @oa))) ?_;obtain⟨S4,h⟩:=nW (((i.new [.map none] (some 85)).upd i.n [.map (some b)]));have g:Ext i S4:=by rw[<- h];exact eX
   have n4:S4.n=i.n+1:=by rw[<- h];rfl
   have m4:S4.A7 i.n=some [.map (some b)]:=by rw[<- h];exact cL
   have z:=O.trans g;rw[h];obtain⟨D,a0⟩:=au hr;refine(xI (xO (pt:=Z.n) (pm:=i.n) (b:=b) (c:=c) V (J.mono z) Y om (by rw[g.A7 om];exact u1) om m4 (S.ext g)) D om (B.mono z)).mono ?_;rintro r ⟨Z5,rfl,j⟩;have k5:=j.n;have q:=g.trans j;have R:=z.trans j;have L:=eT (q.A7 om) u3;have M:=eT (q.A7 om) u4;cases hv:U7 T e
   case' error k=>
    unfold Aj AA oE qv P6
   case' ok x=>
    unfold Aj R3 oE qv P6
   all_goals
    refine gS1 (aI L M) ?_;refine Ct.intro (by(repeat first|simp(disch:=omega) only[O4,G6,G9]|rw[W6 (by kernel_rfl)]);rfl) ?_;refine gS1 (aI L (aI M @Tryz.results12)) ?_;exact⟨_,rfl,(((R.Q3 _).upd om _).upd om _).upd om _⟩
end
end Go.Proofs.T
