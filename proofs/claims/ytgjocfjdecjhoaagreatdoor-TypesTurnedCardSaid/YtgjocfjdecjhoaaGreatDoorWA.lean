/- UR: lists of numbers, numbers; the memory at the start with room for arguments. -/
import Derived.Test.YtgjocfjdecjhoaaGreatDoorRC
import Derived.Test.YtgjocfjdecjhoaaGreatDoorTS
set_option linter.unusedSimpArgs false
set_option linter.unusedVariables false
set_option linter.defProp false
set_option maxHeartbeats 32000000
set_option maxRecDepth 100000
namespace Go.Proofs.T
open Go Go.Ab Go.Ab.NU
section
variable {f:Nat}{cs:List Value}
section
variable {P:Program}{Z:St}
def AB0 {n:Int}(h:(Lit.int .i64 n).wf=true):Bk n:=by
 have h1:IntKind.i64.min= -9223372036854775808:=rfl;have h2:IntKind.i64.max=9223372036854775807:=rfl;simp only[Lit.wf,Q7,Dn,h1,h2]at h;exact⟨h.1,h.2⟩
def Ad6 {t:TypeId}(ht:P.underlying t=some (.int .i64))(h:DX P Z f t cs):∃ n,cs=[.int .i64 n]/\Bk n:=by
 cases f with
 |zero=>exact h.elim
 | succ f=>
   unfold DX at h;rw[ht]at h;obtain⟨n,h1,h2⟩:=h;exact⟨n,h1,AB0 h2⟩
def jA {e:TypeId}(he:P.underlying e=some (.int .i64)){f:Nat}:∀ {ps:List (List Value)},(∀ p∈ps,DX P Z f e p)->∃ l:List Int,ps=l.map (fun n=>[.int .i64 n])/\ps.flatten=l.map (.int .i64)/\∀ n∈l,Bk n
 | [],_=>⟨[],rfl,rfl,fun n h=>by cases h⟩
 | p::ps,h=>by
   obtain⟨n,hn,hw⟩:=Ad6 he (h p (by simp));obtain⟨l,h1,h2,h3⟩:=jA he fun q hq=>h q (GA _ hq);refine⟨n::l,by rw[hn,h1];rfl,by rw[Vu,hn,h2];rfl,fun m hm=>?_⟩;rcases Y5.1 hm with rfl|hm
   ·exact hw
   ·exact h3 m hm
def Uz {s e:TypeId}(hs:P.underlying s=some (.slice e)) (he:P.underlying e=some (.int .i64)) (hm:P.cellsOf e=1)(h:DX P Z f s cs):∃ v l,cs=[v]/\Aw Z v l:=by
 cases f with
 |zero=>exact h.elim
 | succ f=>
   unfold DX at h;rw[hs]at h;rcases h with h|⟨b,B9,cap,h1,h2,h3,h4,h5,h6⟩
   ·exact⟨_,[],h,⟨SL.nil,fun r hr=>by cases hr⟩⟩
   ·obtain⟨l,h7,h8,h9⟩:=jA he fun r hr=>(h6 r hr).2;have hll:B9.length=l.length:=by rw[h7,z2z]
    refine⟨_,l,h1,⟨.inr ⟨b,0,none,cap,_,by rw[hll,z2z],h4,h5,fun k r hk=>?_⟩,h9⟩⟩;rw[<- h7]at hk;rw[HC,<- AG (k*1),Jc (fun r hr=>by rw[(h6 r hr).1,hm]) hk om];have hl:=(h6 r (Bs hk)).1;exact C8 om om
def bP {s e:TypeId}(hs:P.underlying s=some (.slice e)){v:Value}{l:List Int}(h:DX P Z f s [v]) (hl:Aw Z v l):l.length<=9223372036854775807:=by
 obtain⟨a,c,b,off,cells,rfl,-,-⟩:=hl.1.use;cases f with
 |zero=>exact h.elim
 | succ f=>
   unfold DX at h;rw[hs]at h;have hm:maxLen=9223372036854775807:=by decide
   rcases h with h|⟨b,B9,cap,h1,h2,h3,-⟩
   ·simp only[List.cons.injEq,Value.slice.injEq]at h;have:=h.1.2.1;omega
   ·simp only[List.cons.injEq,Value.slice.injEq]at h1;have:=h1.1.2.1;omega
end
def VA {Z Z':St}(h:Kp Z Z'):Dr Z (M8 Z' []):=⟨by rw[EG];exact h.n,fun b cells hb hr=>by rw[Bn (by simp)];exact h.row b cells hb hr⟩
def vH {Z:St}(h:Kp (start.arg []) Z):Z.read 0 0 20=some AE:=by
 have h1:(start.arg []).row 0=some AE:=by
  rw[SK _ _ (by show(0:Nat)≠10;omega)];rfl
 have h2:=h.row 0 AE (by show(0:Nat)<11;omega) h1;rw[Cz,h2,D4];rfl
end
end Go.Proofs.T
namespace Go.Proofs.YtgjocfjdecjhoaaGreatDoor
open Go Go.ChangeShapes Go.WideShapes Go.ChangeAt Go.RowKit
def AA4 {H:Type}{enc:TypeId×Value->H}{P:Program}{w:World}{B8:Nat}{spare:Nat->Bool}{held:Bool}{m:Nat}{e:TypeId}{cs:List Value}{x:DataW H×List MemPlace}{t:TypeDesc}(ht:P.underlying e=some t) (hm:(∃ ms,t= .interface ms)) (h:DataW.trod enc P w B8 spare held m e cs=some x):∃ ev,cs=[ev]/\(ev= .nilIface\/∃ te pe,ev= .iface te pe):=by
 obtain⟨ms,rfl⟩:=hm;cases m with
 |zero=>simp[DataW.trod]at h
 | succ m=>
   unfold DataW.trod at h;rw[ht]at h;split at h<;>simp_all
def Ak8 {W:World}(h:laidMetH Tryz.prog Rows.typesTurnedRow.laid W):T.LK W:=by
 rw[MakeChecks.laidMetH_plain _ _ _ (by kernel_rfl)]at h;obtain⟨ps,hv,-,-⟩:=h;obtain⟨g0,t0,cs0,f0,p0,q0,hg0,ht0,hv0,hd0,hv,-⟩:=hv;obtain⟨g1,t1,cs1,f1,p1,q1,hg1,ht1,hv1,hd1,hv,-⟩:=hv;obtain⟨g2,t2,cs2,f2,p2,q2,hg2,ht2,hv2,hd2,hv,-⟩:=hv;obtain⟨g3,t3,cs3,f3,p3,q3,hg3,ht3,hv3,hd3,hv,-⟩:=hv;obtain⟨g4,t4,cs4,f4,p4,q4,hg4,ht4,hv4,hd4,-,-⟩:=hv;have e:Tryz.prog.globalNamed "strconv.ErrRange"=some 9:=by kernel_rfl
 obtain rfl:=Option.some.inj (e.symm.trans hg4);have et:(Tryz.prog.globals[9]?).map (·.type)=some 203:=by kernel_rfl
 obtain rfl:=Option.some.inj (et.symm.trans ht4);simp only[World.var?,hg4,Option.bind_some]at hv4;obtain⟨ev,h1,h2⟩:=AA4 Tryz.underlying203 ⟨_,rfl⟩ hd4;refine⟨ev,?_,h2⟩;split at hv4
 ·rename_i arr e f hh;cases hv4;unfold World.cell?;dsimp only;rw[hh];have h3:cs4[0]? =some ev:=by
   have:cs4.toList[0]? =some ev:=by rw[h1];rfl
   simpa using this
  simpa using h3
 ·cases hv4
def jH {B8:Ab.Env}{w:World}(hb:B8.lo=w.heap.size) (hw0:B8.w0=w) (hg:10<=w.heap.size){arr:Array Value}{e:TypeId}{f:Nat×Nat}(h0:w.heap[0]? =some (.cells arr e f)) (h20:arr.size=20) (hp:∀ (i:Nat) (v:Value),T.AE[i]? =some v->arr[i]? =some v) :
  ∃ O,Ab.NU.Inv B8 10 w (T.start.arg []) O:=by
 obtain⟨O,hR0,hG,hF0⟩:=Xl (B8:=B8) hb hw0 hg h0 h20 hp;have hle:O.le (O.put T.start.n ⟨0,0,arr.size⟩):=Ab.Place.HY _ (hF0 _ (Nat.le_refl _));have hR1:=Ab.iO (B8:=B8) hR0 OW hF0 (c:=0) (o:=0) (m:=arr.size) (cells:=[]) h0 rfl (by simp) (by omega) (fun v hv=>by cases hv) (fun i v hi=>by simp at hi);exact⟨_,hR1,OW.arg _,Ab.Zs (Z:=T.start) hF0,hG.mono hle,T.start.n,by rw[Ab.Ua];omega,Ab.iP _ _,_,Ab.Place.O7 _ _ _⟩
def mr {O O':Ab.Place}{Z Z':Ab.St}{w w':World}(hN:Ab.QW Z) (h:Ab.X9 O Z w O' Z' w'):Below w.heap.size w w' :=
 ⟨h.out.os,h.out.tape,h.out.output,h.size,fun c hc=>h.H4 c hc fun b q B _ _ hB=>hN b B hB⟩
def qy (m:Nat):Ab.NU.Eo Tryz.prog (m+6) 22=true:=by kernel_rfl
end Go.Proofs.YtgjocfjdecjhoaaGreatDoor
