/- nQ: lists of numbers, numbers; the memory at the start with room for arguments. -/
import Derived.Test.YtgjocfjdecjhoaaGreatDoorIRC
import Derived.Test.YtgjocfjdecjhoaaGreatDoorITS
set_option linter.unusedSimpArgs false
set_option linter.unusedVariables false
set_option linter.defProp false
set_option maxHeartbeats 32000000
set_option maxRecDepth 100000
namespace Go.Proofs.T
open Go Go.Ab Go.Ab.Nt
section
variable {f:Nat}{cs:List Value}
section
variable {P:Program}{Z:St}
def AJ8 {n:Int}(h:(Lit.int .i64 n).wf=true):BN n:=by
 have a:IntKind.i64.min= -9223372036854775808:=rfl;have b:IntKind.i64.max=9223372036854775807:=rfl;simp only[Lit.wf,R2,EO,a,b]at h;exact⟨h.1,h.2⟩
def Am4 {t:TypeId}(ht:P.underlying t=some (.int .i64))(h:GC P Z f t cs):∃ n,cs=[.int .i64 n]/\BN n:=by
 cases f with
 |zero=>exact h.elim
 | succ f=>
   unfold GC at h;rw[ht]at h;obtain⟨n,a,b⟩:=h;exact⟨n,a,AJ8 b⟩
def kU {e:TypeId}(b:P.underlying e=some (.int .i64)){f:Nat}:∀ {ps:List (List Value)},(∀ p∈ps,GC P Z f e p)->∃ l:List Int,ps=l.map (fun n=>[.int .i64 n])/\ps.flatten=l.map (.int .i64)/\∀ n∈l,BN n
 | [],_=>⟨[],rfl,rfl,fun n h=>by cases h⟩
 | p::ps,h=>by
   obtain⟨n,hn,hw⟩:=Am4 b (h p (by simp));obtain⟨l,c,d,g⟩:=kU b fun q i=>h q (De _ i);refine⟨n::l,by rw[hn,c];rfl,by rw[UN,hn,d];rfl,fun m a=>?_⟩;rcases W1.1 a with rfl|a
   ·exact hw
   ·exact g m a
def RD {s e:TypeId}(z:P.underlying s=some (.slice e)) (u:P.underlying e=some (.int .i64)) (y:P.cellsOf e=1)(h:GC P Z f s cs):∃ v l,cs=[v]/\BG Z v l:=by
 cases f with
 |zero=>exact h.elim
 | succ f=>
   unfold GC at h;rw[z]at h;rcases h with h|⟨b,m,c,n,A,B,o,p,d⟩
   ·exact⟨_,[],h,⟨SL.nil,fun r a=>by cases a⟩⟩
   ·obtain⟨l,j,C,q⟩:=kU u fun r a=>(d r a).2;have i:m.length=l.length:=by rw[j,z2z]
    refine⟨_,l,n,⟨.inr ⟨b,0,none,c,_,by rw[i,z2z],o,p,fun k r g=>?_⟩,q⟩⟩;rw[<- j]at g;rw[GK,<- j7 (k*1),KH (fun r a=>by rw[(d r a).1,y]) g om];have D:=(d r (Ag g)).1;exact C9 om om
def YN {s e:TypeId}(j:P.underlying s=some (.slice e)){v:Value}{l:List Int}(h:GC P Z f s [v]) (i:BG Z v l):l.length<=9223372036854775807:=by
 obtain⟨a,c,b,off,cells,rfl,-,-⟩:=i.1.use;cases f with
 |zero=>exact h.elim
 | succ f=>
   unfold GC at h;rw[j]at h;have o:maxLen=9223372036854775807:=by decide
   rcases h with h|⟨b,k,g,d,m,n,-⟩
   ·simp only[List.cons.injEq,Value.slice.injEq]at h;have:=h.1.2.1;omega
   ·simp only[List.cons.injEq,Value.slice.injEq]at d;have:=d.1.2.1;omega
end
def RE {Z Z':St}(h:Kp Z Z'):FG Z (N5 Z' []):=⟨by rw[EY];exact h.n,fun b cells a c=>by rw[Bx (by simp)];exact h.row b cells a c⟩
def kM {Z:St}(h:Kp (start.arg []) Z):Z.read 0 0 20=some AO:=by
 have a:(start.arg []).row 0=some AO:=by
  rw[Tb _ _ (by show(0:Nat)≠10;omega)];rfl
 have b:=h.row 0 AO (by show(0:Nat)<11;omega) a;rw[Eh,b,D5];rfl
end
end Go.Proofs.T
namespace Go.Proofs.YtgjocfjdecjhoaaGreatDoor
open Go Go.ChangeShapes Go.WideShapes Go.ChangeAt Go.RowKit
def AJ3 {H:Type}{enc:TypeId×Value->H}{P:Program}{w:World}{B8:Nat}{a:Nat->Bool}{held:Bool}{m:Nat}{e:TypeId}{cs:List Value}{x:DataW H×List MemPlace}{t:TypeDesc}(ht:P.underlying e=some t) (b:(∃ ms,t= .interface ms)) (h:DataW.trod enc P w B8 a held m e cs=some x):∃ ev,cs=[ev]/\(ev= .nilIface\/∃ te pe,ev= .iface te pe):=by
 obtain⟨ms,rfl⟩:=b;cases m with
 |zero=>simp[DataW.trod]at h
 | succ m=>
   unfold DataW.trod at h;rw[ht]at h;split at h<;>simp_all
def AK8 {W:World}(h:laidMetH Tryz.prog Rows.typesTurnedRow.laid W):T.Kb W:=by
 rw[MakeChecks.laidMetH_plain _ _ _ (by kernel_rfl)]at h;obtain⟨ps,a,-,-⟩:=h;obtain⟨g0,t0,cs0,f0,p0,q0,hg0,ht0,hv0,hd0,a,-⟩:=a;obtain⟨g1,t1,cs1,f1,p1,q1,hg1,ht1,hv1,hd1,a,-⟩:=a;obtain⟨g2,t2,cs2,f2,p2,q2,hg2,ht2,hv2,hd2,a,-⟩:=a;obtain⟨g3,t3,cs3,f3,p3,q3,hg3,ht3,hv3,hd3,a,-⟩:=a;obtain⟨g4,t4,cs4,f4,p4,q4,hg4,ht4,hv4,hd4,-,-⟩:=a;have e:Tryz.prog.globalNamed "strconv.ErrRange"=some 9:=by kernel_rfl
 obtain rfl:=Option.some.inj (e.symm.trans hg4);have b:(Tryz.prog.globals[9]?).map (·.type)=some 203:=by kernel_rfl
 obtain rfl:=Option.some.inj (b.symm.trans ht4);simp only[World.var?,hg4,Option.bind_some]at hv4;obtain⟨ev,h1,h2⟩:=AJ3 Tryz.underlying203 ⟨_,rfl⟩ hd4;refine⟨ev,?_,h2⟩;split at hv4
 ·rename_i arr e f d;cases hv4;unfold World.cell?;dsimp only;rw[d];have c:cs4[0]? =some ev:=by
   have:cs4.toList[0]? =some ev:=by rw[h1];rfl
   simpa using this
  simpa using c
 ·cases hv4
def Vy {B8:Ab.Env}{w:World}(p:B8.lo=w.heap.size) (j:B8.w0=w) (q:10<=w.heap.size){arr:Array Value}{e:TypeId}{f:Nat×Nat}(k:w.heap[0]? =some (.cells arr e f)) (b:arr.size=20) (r:∀ (i:Nat) (v:Value),T.AO[i]? =some v->arr[i]? =some v) :
  ∃ O,Ab.Nt.Inv B8 10 w (T.start.arg []) O:=by
 obtain⟨O,d,l,a⟩:=Yt (B8:=B8) p j q k b r;have h:O.le (O.put T.start.n ⟨0,0,arr.size⟩):=Ab.Place.Hz _ (a _ (Nat.le_refl _));have g:=Ab.jo (B8:=B8) d PW a (c:=0) (o:=0) (m:=arr.size) (cells:=[]) k rfl (by simp) (by omega) (fun v s=>by cases s) (fun i v hi=>by simp at hi);exact⟨_,g,PW.arg _,Ab.bL (Z:=T.start) a,l.mono h,T.start.n,by rw[Ab.Vl];omega,Ab.jq _ _,_,Ab.Place.R0 _ _ _⟩
def cE {O a:Ab.Place}{Z Z':Ab.St}{w w':World}(e:Ab.Rl Z) (h:Ab.Y6 O Z w a Z' w'):Below w.heap.size w w' :=
 ⟨h.out.os,h.out.tape,h.out.output,h.size,fun c f=>h.I2 c f fun b q B _ _ d=>e b B d⟩
def Mn (m:Nat):Ab.Nt.GR Tryz.prog (m+6) 22=true:=by kernel_rfl
end Go.Proofs.YtgjocfjdecjhoaaGreatDoor
