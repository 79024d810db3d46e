/- Ud: lists of numbers, numbers; the memory at the start with room for arguments. -/
import Derived.Test.YtbcanmagihejhaaGreatDoorRC
import Derived.Test.YtbcanmagihejhaaGreatDoorTS
set_option linter.unusedSimpArgs false
set_option linter.unusedVariables false
set_option linter.defProp false
set_option maxHeartbeats 32000000
set_option maxRecDepth 100000
namespace Go.Proofs.T
open Go Go.Ab Go.Ab.PG
section
variable {f:Nat}{cs:List Value}
section
variable {P:Program}{Z:St}
def zq {n:Int}(h:(Lit.int .i64 n).wf=true):X6 n:=by
 have a:IntKind.i64.min= -9223372036854775808:=rfl;have b:IntKind.i64.max=9223372036854775807:=rfl;simp only[Lit.wf,T1,Ej,a,b]at h;exact⟨h.1,h.2⟩
def Ab8 {t:TypeId}(ht:P.underlying t=some (.int .i64))(h:Ei P Z f t cs):∃ n,cs=[.int .i64 n]/\X6 n:=by
 cases f with
 |zero=>exact h.elim
 | succ f=>
   unfold Ei at h;rw[ht]at h;obtain⟨n,a,b⟩:=h;exact⟨n,a,zq b⟩
def WS {e:TypeId}(b:P.underlying e=some (.int .i64)){f:Nat}:∀ {ps:List (List Value)},(∀ p∈ps,Ei P Z f e p)->∃ l:List Int,ps=l.map (fun n=>[.int .i64 n])/\ps.flatten=l.map (.int .i64)/\∀ n∈l,X6 n
 | [],_=>⟨[],rfl,rfl,fun n h=>by cases h⟩
 | p::ps,h=>by
   obtain⟨n,hn,hw⟩:=Ab8 b (h p (by simp));obtain⟨l,c,d,g⟩:=WS b fun q i=>h q (Ci _ i);refine⟨n::l,by rw[hn,c];rfl,by rw[Qp,hn,d];rfl,fun m a=>?_⟩;rcases V9.1 a with rfl|a
   ·exact hw
   ·exact g m a
def AU3 {t e:TypeId}{m:Nat}(ht:P.underlying t=some (.array m e)) (d:P.underlying e=some (.int .i64))(h:Ei P Z f t cs):∃ l:List Int,l.length=m/\cs=l.map (.int .i64)/\∀ n∈l,X6 n:=by
 cases f with
 |zero=>exact h.elim
 | succ f=>
   unfold Ei at h;rw[ht]at h;obtain⟨i,a,b,c⟩:=h;obtain⟨l,h4,h5,h6⟩:=WS d fun p g=>(c p g).2;exact⟨l,by rw[<- b,h4,z2z],by rw[a,h5],h6⟩
def ye {s e:TypeId}(u:P.underlying s=some (.slice e)) (p:P.underlying e=some (.int .i64)) (q:P.cellsOf e=1)(h:Ei P Z f s cs):∃ v l,cs=[v]/\BX Z v l:=by
 cases f with
 |zero=>exact h.elim
 | succ f=>
   unfold Ei at h;rw[u]at h;rcases h with h|⟨b,D0,cap,j,y,z,m,n,c⟩
   ·exact⟨_,[],h,⟨SL.nil,fun r a=>by cases a⟩⟩
   ·obtain⟨l,i,A,o⟩:=WS p fun r a=>(c r a).2;have g:D0.length=l.length:=by rw[i,z2z]
    refine⟨_,l,j,⟨.inr ⟨b,0,none,cap,_,by rw[g,z2z],m,n,fun k r d=>?_⟩,o⟩⟩;rw[<- i]at d;rw[Eo,<- Be (k*1),QO (fun r a=>by rw[(c r a).1,q]) d om];have B:=(c r (y6 d)).1;exact G3 om om
def AT9 {s e:TypeId}(i:P.underlying s=some (.slice e)){v:Value}{l:List Int}(h:Ei P Z f s [v]) (g:BX Z v l):l.length<=9223372036854775807:=by
 obtain⟨a,c,b,off,cells,rfl,-,-⟩:=g.1.use;cases f with
 |zero=>exact h.elim
 | succ f=>
   unfold Ei at h;rw[i]at h;have n:maxLen=9223372036854775807:=by decide
   rcases h with h|⟨b,D0,cap,d,j,m,-⟩
   ·simp only[List.cons.injEq,Value.slice.injEq]at h;have:=h.1.2.1;omega
   ·simp only[List.cons.injEq,Value.slice.injEq]at d;have:=d.1.2.1;omega
end
def yg {Z Z':St}(h:Kp Z Z'):Ao Z (J0 Z' []):=⟨by rw[FD];exact h.n,fun b cells a c=>by rw[CW (by simp)];exact h.row b cells a c⟩
def yf {Z:St}(h:Kp (start.arg []) Z):Z.read 1 0 20=some T7:=by
 have a:(start.arg []).row 1=some T7:=by
  rw[Rr _ _ (by show(1:Nat)≠8;omega)];rfl
 have b:=h.row 1 T7 (by show(1:Nat)<9;omega) a;rw[AB,b,F8];rfl
end
end Go.Proofs.T
namespace Go.Proofs.YtbcanmagihejhaaGreatDoor
open Go Go.ChangeShapes Go.WideShapes Go.ChangeAt Go.RowKit
def za {H:Type}{enc:TypeId×Value->H}{P:Program}{w:World}{A9:Nat}{a:Nat->Bool}{held:Bool}{m:Nat}{e:TypeId}{cs:List Value}{x:DataW H×List MemPlace}{t:TypeDesc}(ht:P.underlying e=some t) (b:(∃ ms,t= .interface ms)) (h:DataW.trod enc P w A9 a held m e cs=some x):∃ ev,cs=[ev]/\(ev= .nilIface\/∃ te pe,ev= .iface te pe):=by
 obtain⟨ms,rfl⟩:=b;cases m with
 |zero=>simp[DataW.trod]at h
 | succ m=>
   unfold DataW.trod at h;rw[ht]at h;split at h<;>simp_all
def At3 {W:World}(h:laidMetH Tryz.prog Rows.textManyRow.laid W):T.Lz W:=by
 rw[MakeChecks.laidMetH_plain _ _ _ (by kernel_rfl)]at h;obtain⟨g,a,-,-⟩:=h;obtain⟨g0,t0,cs0,f0,p0,q0,hg0,ht0,hv0,hd0,a,-⟩:=a;obtain⟨g1,t1,cs1,f1,p1,q1,hg1,ht1,hv1,hd1,a,-⟩:=a;obtain⟨g2,t2,cs2,f2,p2,q2,hg2,ht2,hv2,hd2,a,-⟩:=a;obtain⟨g3,t3,cs3,f3,p3,q3,hg3,ht3,hv3,hd3,a,-⟩:=a;obtain⟨g4,t4,cs4,f4,p4,q4,hg4,ht4,hv4,hd4,-,-⟩:=a;have e:Tryz.prog.globalNamed "strconv.ErrRange"=some 7:=by kernel_rfl
 obtain rfl:=Option.some.inj (e.symm.trans hg4);have b:(Tryz.prog.globals[7]?).map (·.type)=some 118:=by kernel_rfl
 obtain rfl:=Option.some.inj (b.symm.trans ht4);simp only[World.var?,hg4,Option.bind_some]at hv4;obtain⟨ev,h1,h2⟩:=za Tryz.underlying118 ⟨_,rfl⟩ hd4;refine⟨ev,?_,h2⟩;split at hv4
 ·rename_i arr e f d;cases hv4;unfold World.cell?;dsimp only;rw[d];have c:cs4[0]? =some ev:=by
   have:cs4.toList[0]? =some ev:=by rw[h1];rfl
   simpa using this
  simpa using c
 ·cases hv4
def mA {A9:Ab.Env}{w:World}(q:A9.lo=w.heap.size) (j:A9.w0=w) (r:8<=w.heap.size){arr:Array Value}{e:TypeId}{f:Nat×Nat}(l:w.heap[1]? =some (.cells arr e f)) (b:arr.size=20) (s:∀ (i:Nat) (v:Value),T.T7[i]? =some v->arr[i]? =some v) :
  ∃ O,Ab.PG.Inv A9 8 w (T.start.arg []) O:=by
 obtain⟨O,d,p,a⟩:=XD (A9:=A9) q j r l b s;have h:O.le (O.put T.start.n ⟨1,0,arr.size⟩):=Ab.Place.JS _ (a _ (Nat.le_refl _));have g:=Ab.gZ (A9:=A9) d OO a (c:=1) (o:=0) (m:=arr.size) (cells:=[]) l rfl (by simp) (by omega) (fun v u=>by cases u) (fun i v hi=>by simp at hi);exact⟨_,g,OO.arg _,Ab.ZJ (Z:=T.start) a,p.mono h,T.start.n,by rw[Ab.Ue];omega,Ab.ga _ _,_,Ab.Place.S9 _ _ _⟩
def tI {O a:Ab.Place}{Z Z':Ab.St}{w w':World}(e:Ab.QF Z) (h:Ab.AS O Z w a Z' w'):Below w.heap.size w w' :=
 ⟨h.out.os,h.out.tape,h.out.output,h.size,fun c f=>h.I4 c f fun b q B _ _ d=>e b B d⟩
def tw (m:Nat):Ab.PG.Fz Tryz.prog (m+6) 22=true:=by kernel_rfl
end Go.Proofs.YtbcanmagihejhaaGreatDoor
