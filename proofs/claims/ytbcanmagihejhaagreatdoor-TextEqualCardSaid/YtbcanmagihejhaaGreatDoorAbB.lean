/- wi of structs and qq; the CI AO make a new block. -/
import Derived.Test.YtbcanmagihejhaaGreatDoorAbA
import Derived.MapKept
import Derived.RangeFuncRecord
import Derived.OrdersIn
set_option linter.unusedSimpArgs false
set_option linter.unusedVariables false
set_option maxHeartbeats 32000000
set_option maxRecDepth 100000
namespace Go.Ab
open Go
section
variable {P:Program} {O:Place} {fr:Fr} {e:Operand->Value} {o:Oper} {w:World} {v:Value}
theorem ZF (off:Nat):∀ (l:List Value) (k:Nat) (arr:Array Value),(l.zipIdx k).foldl (fun cs (x:Value×Nat)=>cs.setIfInBounds (off+x.2) x.1) arr=Dj arr (off+k) l:=by
 intro l;induction l with
 | nil=>intro k arr;rfl
 | cons v l ih=>intro k arr;rw [List.zipIdx_cons,List.foldl_cons,ih];rfl
theorem VL {cells P7 r vs vs':List Value}{off:Nat}(h:M3 cells off vs=some r) (hc:D8 O cells P7) (hv:D8 O vs vs')
  (h1:∀ c∈cells,K9 c=true) (h2:∀ c∈vs,K9 c=true) :
  D8 O r (Dj ⟨P7⟩ off vs').toList/\(∀ c∈r,K9 c=true)/\off+vs'.length<=P7.length:=by
 obtain ⟨h3,rfl⟩:=PQ _ _ _ _ h;have l1:=hc.length;have l2:=hv.length;refine ⟨D8.EN ?_ ?_,?_,om⟩
 ·rw [show (Dj ⟨P7⟩ off vs').toList.length=(Dj ⟨P7⟩ off vs').size from Array.length_toList,Gi];simp;omega
 ·intro i v hi;rw [Mj h3] at hi;rw [Array.getElem?_toList,IQ _ _ _ _ (by simp;omega)];by_cases hin:off<=i/\i<off+vs.length
  ·rw [if_pos hin] at hi;rw [if_pos om];exact hv.get hi
  ·rw [if_neg hin] at hi;rw [if_neg om]
   simpa using hc.get hi
 ·intro c hcm;rcases List.mem_append.1 hcm with hcm|hcm
  ·rcases List.mem_append.1 hcm with hcm|hcm
   ·exact h1 c (List.mem_of_mem_take hcm)
   ·exact h2 c hcm
  ·exact h1 c (List.mem_of_mem_drop hcm)
theorem HP {β:Type}{c:Bool}{x:Option β}{b:β}(h:bi c none x=some b):c=false/\x=some b:=by
 cases c with
 | true=>cases h
 | false=>exact ⟨rfl,h⟩
theorem Mk {place place':Nat->Option (Nat×Nat)}(hp:∀ i,place' i=place i):∀ (is:List Nat) (vs vs' cells r P7:List Value),D8 O vs vs'->As place (is.zip vs) cells=some r ->
  D8 O cells P7->(∀ c∈cells,K9 c=true)->∃ r',Instr.fill place' ⟨P7⟩ (is.zip vs')=some ⟨r'⟩/\D8 O r r'/\∀ c∈r,K9 c=true:=by
 intro is;induction is with
 | nil =>
   intro vs vs' cells r P7 _ h hc h1;cases h;exact ⟨P7,rfl,hc,h1⟩
 | cons i is ih =>
   intro vs vs' cells r P7 hv h hc h1;cases hv with
   | nil=>cases h;exact ⟨P7,rfl,hc,h1⟩
   | cons hx hs =>
     rename_i x x' l l';obtain ⟨⟨off,n⟩,h2,h3⟩:=A4 (show ob (place i) (fun q=>pr q fun off n=>bi (CQ x) none (bb ((K3 x).length.beq n) (ob (M3 cells off (K3 x)) (As place (is.zip l)))))=some r from h);obtain ⟨ht,h4⟩:=HP (show bi (CQ x) none _=some r from h3);obtain ⟨h5,h6⟩:=H2 h4;obtain ⟨qs,h7,h8⟩:=A4 h6;have hn:=Nat.eq_of_beq_eq_true h5;obtain ⟨hcx,hcc⟩:=hx.cells ht;obtain ⟨k1,k2,k3⟩:=VL h7 hc hcx h1 hcc;obtain ⟨r',k4,k5,k6⟩:=ih l l' qs r _ hs h8 k1 k2;refine ⟨r',?_,k5,k6⟩;have hl:=hcx.length;rw [List.zip_cons_cons];unfold Instr.fill;rw [hp i,h2];simp only;have hsz:x'.cells.size=n:=by rw [<- Array.length_toList,<- hl,hn]
     rw [if_neg (by simp [hsz];rw [Array.length_toList] at k3;omega)];rw [<- k4];congr 1;rw [<- Array.foldl_toList,Array.toList_zipIdx];have:=ZF off x'.cells.toList 0 ⟨P7⟩;rw [Nat.add_zero] at this;exact this
theorem HQ (parts:Array (Nat×Operand)) (e:Operand->Value):(parts.map fun (x:Nat×Operand)=>(x.1,e x.2)).toList=(parts.toList.map (·.1)).zip ((parts.toList.map (·.2)).map e):=by
 rw [Array.toList_map];induction parts.toList with
 | nil=>rfl
 | cons x l ih=>simp [ih]
theorem VM:∀ (fs:List Field) (ps:List (Nat×Nat)),Qg P fs=some ps->∀ w,(fs.mapM fun f=>do pure (f.offset,<- sizeOf f.type):Sem (List (Nat×Nat))).run P w= .ok ps w:=by
 intro fs;induction fs with
 | nil=>intro ps h w;cases h;rfl
 | cons f fs ih =>
   intro ps h w;obtain ⟨n,h1,h2⟩:=A4 (show ob (size? P f.type) (fun n=>ob (Qg P fs) fun r=>some ((f.offset,n)::r))=some ps from h);obtain ⟨r,h3,h4⟩:=A4 h2;cases h4;rw [List.mapM_cons];simp only [Sem.run_bind,Aj h1,Result.andThen_ok,Sem.run_pure,ih r h3]
theorem CJ {t:TypeId}{z:Value}(h:y7 P t=some z):(K3 z=z.cells.toList)/\D8 O (K3 z) z.cells.toList/\∀ c∈K3 z,K9 c=true:=by
 obtain ⟨i,h1,h2⟩:=A4 h;obtain ⟨z',h3,h4⟩:=A4 h2;obtain ⟨h5,h6⟩:=H2 h4;cases h6;cases z with
 | agg cs=>obtain ⟨l⟩:=cs;exact ⟨rfl,D8.JL h5,DF h5⟩
 | tuple vs=>cases h5
 | _=>exact ⟨rfl,.cons (.H9 h5) .nil,by intro c hc;simp [K3] at hc;subst hc;exact Gj h5⟩
theorem Sb {t:TypeId}{parts:Array (Nat×Operand)}(ho:o.op= .build t parts) (hk:O6 O fr e o.op.operands.toList) (h:Dk P fr t parts=some v):AP P O e o w v:=by
 obtain ⟨z,h1,k1⟩:=A4 h;clear h;obtain ⟨vs,h2,h3⟩:=A4 k1;clear k1;have hr:=(hk.sub (k:=parts.toList.map (·.2)) fun y hy=>by simpa [ho,Op.operands] using hy).evs h2;obtain ⟨hz,_,_⟩:=Cb (O:=O) h1 w;obtain ⟨zc1,zc2,zc3⟩:=CJ (O:=O) h1;unfold Av at h3;split at h3
 ·rename_i fs hu;obtain ⟨ps,h4,h5⟩:=A4 h3;obtain ⟨l,h6,h7⟩:=A4 h5;cases h7;have hps:(fs.mapM fun f=>do pure (f.offset,<- sizeOf f.type):Sem (Array (Nat×Nat))).run P w= .ok ps.toArray w:=by
   rw [Array.mapM_eq_mapM_toList,Sem.run_map,VM _ _ h4];rfl
  obtain ⟨r',k1,k2,k3⟩:=Mk (place:=fun i=>ps[i]?) (place':=fun i=>ps.toArray[i]?) (fun i=>by simp) _ vs _ _ l _ hr h6 zc2 zc3;refine ⟨.agg ⟨r'⟩,?_,.agg k3 k2⟩;simp only [execOp,ho,Instr.build,Sem.run_bind,hz,Result.andThen_ok,F0 hu,hps,HQ];rw [show z.cells=⟨z.cells.toList⟩ from rfl,k1];rfl
 ·rename_i m el hu;obtain ⟨n,h4,h5⟩:=A4 h3;obtain ⟨l,h6,h7⟩:=A4 h5;cases h7;obtain ⟨r',k1,k2,k3⟩:=Mk (place:=fun i=>some (i*n,n)) (place':=fun i=>some (i*n,n)) (fun i=>rfl) _ vs _ _ l _ hr h6 zc2 zc3;refine ⟨.agg ⟨r'⟩,?_,.agg k3 k2⟩;simp only [execOp,ho,Instr.build,Sem.run_bind,hz,Result.andThen_ok,F0 hu,Aj h4,HQ];rw [show z.cells=⟨z.cells.toList⟩ from rfl,k1];rfl
 ·cases h3
def GV (P:Program) (O:Place) (e:Operand->Value) (o:Oper) (w:World) (cs:List Value) (v:Nat->Value) (t:Option TypeId:=none):Prop :=
 ∃ (w':World) (v':Value) (arr:Array Value) (el:TypeId) (lo hi:Nat) (vs more:List Value),(execOp e o).run P w= .ok (.value v') w'/\w'.heap.size=w.heap.size+1/\w'.heap[w.heap.size]? =some (.cells arr el (lo,hi)) /\
  (∀ c,c<w.heap.size->w'.heap[c]? =w.heap[c]?)/\Outside w w'/\(arr.size<=lo\/hi<=lo)/\(∀ c∈cs,K9 c=true)/\arr.toList=vs++more/\D8 O cs vs/\(∀ x,t=some x->x=el) /\
  ∀ (O':Place) (n:Nat),O' n=some ⟨w.heap.size,0,arr.size⟩->H5 O' (v n) v'
theorem GV.row {cs:List Value} {t:Option TypeId} {vf:Nat->Value} {v':Value} {arr:Array Value} {el:TypeId} (Dl:(execOp e o).run P w= .ok (.value v') { w with heap:=w.heap.push (.cells arr el) })
  (hc:∀ c∈cs,K9 c=true) (hr:D8 O cs arr.toList) (hv:∀ (O':Place) (n:Nat),O' n=some ⟨w.heap.size,0,arr.size⟩->H5 O' (vf n) v') (ht:∀ x,t=some x->x=el:=by exact fun _ h=>by cases h):GV P O e o w cs vf t :=
 ⟨_,v',arr,el,0,0,arr.toList,[],Dl,by simp,by simp,fun c hc=>by simp [Array.getElem?_push];intro h;omega,⟨rfl,rfl,rfl⟩,.inr (Nat.le_refl _),hc,by simp,hr,ht,hv⟩
theorem KQ {c m:Nat}(O':Place) (n:Nat) (h:O' n=some ⟨c,0,m⟩):H5 O' (ptrTo n) (.pointer (some ⟨c,0,none⟩)):= .ptr (off:=0) h
theorem Sd {t:TypeId}{cs:List Value}{vf:Nat->Value}(ho:o.op= .alloc t) (h:u6 P t=some (cs,vf)):GV P O e o w cs vf (some t):=by
 obtain ⟨z,h1,h2⟩:=A4 h;cases h2;obtain ⟨hz,_,_⟩:=Cb (O:=O) h1 w;obtain ⟨zc1,zc2,zc3⟩:=CJ (O:=O) h1;refine GV.row (v':= .pointer (some ⟨w.heap.size,0,none⟩)) (arr:=z.cells) (el:=t) ?_ zc3 zc2 KQ (fun _ h=>by cases h;rfl);simp only [execOp,ho,Instr.alloc,Sem.run_bind,hz,Result.andThen_ok,newVar,newRow,run_newObj,Sem.run_pure]
theorem ZG {t:TypeId}{x:Operand}{cs:List Value}{vf:Nat->Value}(ho:o.op= .box t x) (hk:O6 O fr e o.op.operands.toList) (h:VN fr x=some (cs,vf)):GV P O e o w cs vf:=by
 obtain ⟨u,h1,h2⟩:=A4 h;obtain ⟨ht,h3⟩:=HP h2;cases h3;obtain ⟨k1,k2⟩:=(hk x u (by simp [ho,Op.operands]) h1).cells ht;refine GV.row (v':= .pointer (some ⟨w.heap.size,0,none⟩)) (arr:=(e x).cells) (el:=t) ?_ k2 k1 KQ;simp only [execOp,ho,Instr.box,newVar,newRow,Sem.run_bind,run_newObj,Result.andThen_ok,Sem.run_pure]
theorem JM {α:Type}(l:List α) (n:Nat):(Ab.rep l n).length=n*l.length:=by
 induction n with
 | zero=>show ([]:List α).length=0*l.length;simp
 | succ n ih=>show (l++Ab.rep l n).length=_;rw [List.length_append,ih,Nat.succ_mul];omega
theorem MI {α:Type}(l:List α):∀ (n i:Nat),i<n*l.length->(Ab.rep l n)[i]? =l[i % l.length]? :=by
 intro n;induction n with
 | zero=>intro i h;omega
 | succ n ih =>
   intro i h;show (l++Ab.rep l n)[i]? =_;by_cases hi:i<l.length
   ·rw [List.getElem?_append_left hi,Nat.mod_eq_of_lt hi]
   ·rw [List.getElem?_append_right om,ih _ (by rw [Nat.succ_mul] at h;omega)];congr 1;rw [<- Nat.mod_eq_sub_mod om]
theorem KR {z z':List Value}(hz:D8 O z z') (n k:Nat) (hk:k=n*z.length):D8 O (Ab.rep z n) ((Array.range k).map fun i=>(⟨z'⟩:Array Value)[i % (⟨z'⟩:Array Value).size]!).toList:=by
 have hl:=hz.length;refine D8.EN (by rw [JM];simp [hk]) ?_;intro i v hi;have hlt:i<n*z.length:=by rw [<- JM];exact (List.getElem?_eq_some_iff.1 hi).1
 rw [MI z n i hlt] at hi;obtain ⟨v',h1,h2⟩:=hz.get hi;refine ⟨v',?_,h2⟩;simp only [Array.toList_map,Array.toList_range,List.getElem?_map];rw [List.getElem?_range om];simp only [Option.map_some,Option.some.injEq,List.size_toArray];have h3:(⟨z'⟩:Array Value)[i % z'.length]? =some v':=by rw [<- hl];simpa using h1
 rw [getElem!_def,h3]
theorem KT {t:TypeId}{len:Nat}{parts:Array (Nat×Operand)}{cs:List Value}{vf:Nat->Value}(ho:o.op= .buildSlice t len parts) (hk:O6 O fr e o.op.operands.toList)
  (h:EO P fr t len parts=some (cs,vf)):GV P O e o w cs vf:=by
 obtain ⟨el,h1,k1⟩:=A4 h;obtain ⟨m,h2,k2⟩:=A4 k1;obtain ⟨z,h3,k3⟩:=A4 k2;obtain ⟨vs,h4,k4⟩:=A4 k3;obtain ⟨h5,k5⟩:=H2 k4;obtain ⟨h6,k6⟩:=H2 k5;obtain ⟨l,h7,k7⟩:=A4 k6;clear h k1 k2 k3 k4 k5 k6;cases k7;have hm:=Nat.eq_of_beq_eq_true h5;have hle:=Nat.le_of_ble_eq_true h6;have hr:=(hk.sub (k:=parts.toList.map (·.2)) fun y hy=>by simpa [ho,Op.operands] using hy).evs h4;obtain ⟨hz,_,_⟩:=Cb (O:=O) h3 w;obtain ⟨zc1,zc2,zc3⟩:=CJ (O:=O) h3;have cf:∀ c∈Ab.rep (K3 z) len,K9 c=true:=by
  intro c hc;obtain ⟨i,hi⟩:=List.getElem?_of_mem hc;have hlt:i<len*(K3 z).length:=by rw [<- JM];exact (List.getElem?_eq_some_iff.1 hi).1
  rw [MI _ _ _ hlt] at hi;exact zc3 c (List.mem_of_getElem? hi)
 have hzr:=KR zc2 len (len*m) (by rw [hm]);obtain ⟨r',k1,k2,k3⟩:=Mk (place:=fun i=>some (i*m,m)) (place':=fun i=>some (i*m,m)) (fun i=>rfl) _ vs _ _ _ _ hr h7 hzr cf;refine GV.row (v':= .slice (some ⟨w.heap.size,0,none⟩) len len) (arr:=⟨r'⟩) (el:=el) ?_ k3 k2 (fun O' n hq=> .slice (off:=0) hq);have hu:=FB h1;have hcz:(⟨z.cells.toList⟩:Array Value)=z.cells:=rfl;by_cases h0:len*m=0
 ·simp only [execOp,ho,Instr.buildSlice,Sem.run_bind,F0 hu,Result.andThen_ok,Aj h2,Sem.run_ite,h0];rw [if_neg om];simp only [if_true,Sem.run_bind,Sem.run_pure,Result.andThen_ok];rw [h0] at k1;simp only [HQ];have he:((Array.range 0).map fun i=>(#[]:Array Value)[i % (#[]:Array Value).size]!)=⟨((Array.range 0).map fun i=>(⟨z.cells.toList⟩:Array Value)[i % (⟨z.cells.toList⟩:Array Value).size]!).toList⟩:=by
   simp
  rw [he,k1];simp only [newRow,Sem.run_bind,run_newObj,Result.andThen_ok,Sem.run_pure]
 ·simp only [execOp,ho,Instr.buildSlice,Sem.run_bind,F0 hu,Result.andThen_ok,Aj h2,Sem.run_ite,h0];rw [if_neg om];simp only [if_false,Sem.run_bind,Sem.run_pure,Result.andThen_ok,hz];simp only [HQ];have he:((Array.range (len*m)).map fun i=>z.cells[i % z.cells.size]!)=⟨((Array.range (len*m)).map fun i=>(⟨z.cells.toList⟩:Array Value)[i % (⟨z.cells.toList⟩:Array Value).size]!).toList⟩:=rfl;rw [he,k1];simp only [newRow,Sem.run_bind,run_newObj,Result.andThen_ok,Sem.run_pure]
theorem FC (l:List UInt8):FD (J3 l)=true:=by
 induction l with
 | nil=>rfl
 | cons b l ih=>show bi true (FD (J3 l)) false=true;exact ih
theorem Se {s d:TypeId}{x:Operand}{cs:List Value}{vf:Nat->Value}(ho:o.op= .convert s d x) (hk:O6 O fr e o.op.operands.toList)
  (h:EP P fr s d x=some (cs,vf)):GV P O e o w cs vf:=by
 obtain ⟨hs0,h⟩:=H2 h;have hs:∃ ds,P.underlying s=some ds:=Option.isSome_iff_exists.1 hs0;obtain ⟨u,h1,k1⟩:=A4 h;obtain ⟨l,h2,k2⟩:=A4 k1;obtain ⟨el,h3,k3⟩:=A4 k2;obtain ⟨h4,k4⟩:=H2 k3;clear h k1 k2 k3;cases k4;have hx:=hk x u (by simp [ho,Op.operands]) h1;unfold JN at h2;split at h2
 ·rename_i b;cases h2;generalize hE:e x=y at hx;cases hx with
  | H9 _ =>
    obtain ⟨ds,hds⟩:=hs;have hud:=FB h3;have hue:P.underlying el=some (.int .u8):=by
     unfold isByte at h4;split at h4
     ·assumption
     ·cases h4
    have hsz:b.size=b.data.toList.length:=Array.length_toList.symm;have AE1:b.size<=(Question.appendCap b.size 0 el).cut (w.tape w.drawn (.appendCap b.size 0 el)):=Nat.le_add_right _ _;generalize hK:(Question.appendCap b.size 0 el).cut (w.tape w.drawn (.appendCap b.size 0 el))=K at AE1;have Hj:((b.data.map fun b:UInt8=>Value.int .u8 b.toNat)++Array.replicate (K-b.size) (Value.int .u8 0)).toList=J3 b.data.toList++List.replicate (K-b.size) (.int .u8 0):=by
     rw [Array.toList_append,Array.toList_map,Array.toList_replicate];rfl
    have AE2:((b.data.map fun b:UInt8=>Value.int .u8 b.toNat)++Array.replicate (K-b.size) (Value.int .u8 0)).size=K:=by
     rw [Array.size_append,Array.size_map,Array.size_replicate];show b.size+_=K;omega
    generalize ha:(b.data.map fun b:UInt8=>Value.int .u8 b.toNat)++Array.replicate (K-b.size) (Value.int .u8 0)=arr at Hj AE2
    refine ⟨(({ w with drawn:=w.drawn+1,heap:=w.heap.push (.cells arr el) }:World).freeze ⟨w.heap.size,arr.size,none⟩ 1),.slice (some ⟨w.heap.size,0,none⟩) b.size K,arr,el,arr.size,arr.size+1,
     J3 b.data.toList,List.replicate (K-b.size) (.int .u8 0),?_,?_,?_,?_,⟨rfl,rfl,rfl⟩,.inl (Nat.le_refl _),DF (FC _),Hj,D8.JL (FC _),(fun _ h=>by cases h),?_⟩
    ·have hf:(Question.appendCap b.size 0 el).forced=false:=rfl;simp only [execOp,ho,hE,convert,Sem.run_bind,F0 hds,Result.andThen_ok,F0 hud]
     cases ds <;> simp only [Sem.run_bind,F0 hue,Result.andThen_ok,Conv.stringToBytes,run_choose,hf,Bool.false_eq_true,if_false,hK,newRow,run_newObj,Sem.run_pure,ha,markStringish,run_shape] <;>
      simp [World.shape?,ha]
    ·simp [World.freeze]
    ·simp only [World.freeze];rw [if_neg om];show ((w.heap.push (.cells arr el)).modify w.heap.size _)[w.heap.size]? =_;rw [Array.getElem?_modify];simp
    ·intro c hc;simp [World.freeze,Array.getElem?_modify,Array.getElem?_push];rw [if_neg om,if_neg om]
    ·intro O' n hq;rw [hsz];exact .grow hq om (by show 0+0+K*1<=arr.size;omega)
 ·cases h2
theorem wrap_small {n:Nat}(h:n<9223372036854775808):IntKind.i64.wrap (n:Int)=n:=by
 rw [wrap_i64];split <;> omega
theorem VO {t:TypeId}{l c:Operand}{cs:List Value}{vf:Nat->Value}(ho:o.op= .makeSlice t l c) (hk:O6 O fr e o.op.operands.toList)
  (h:Ml P fr t l c=some (cs,vf)):GV P O e o w cs vf:=by
 obtain ⟨el,h1,k1⟩:=A4 h;obtain ⟨i,h2,k2⟩:=A4 k1;obtain ⟨z,h3,k3⟩:=A4 k2;obtain ⟨n,h4,k4⟩:=A4 k3;obtain ⟨m,h5,k5⟩:=A4 k4;obtain ⟨h6,k6⟩:=H2 k5;obtain ⟨h7,k7⟩:=H2 k6;obtain ⟨h8,k8⟩:=H2 k7;clear h k1 k2 k3 k4 k5 k6 k7;cases k8;have hnm:=Nat.le_of_ble_eq_true h6;have Cc:=Nat.le_of_ble_eq_true h7;have hsz:=Nat.eq_of_beq_eq_true h8;unfold room at Cc;have AY7:m<=4294967296:=Nat.le_trans (Nat.le_mul_of_pos_right m om) Cc;have hbm:m*i.bytes<=4294967296:=Nat.le_trans (Nat.mul_le_mul_left m om) Cc;obtain ⟨kl,hl⟩:=MJ hk (x:=l) (by simp [ho,Op.operands]) h4;obtain ⟨kc,hc⟩:=MJ hk (x:=c) (by simp [ho,Op.operands]) h5;obtain ⟨hz,_,_⟩:=Cb (O:=O) h3 w;obtain ⟨zc1,zc2,zc3⟩:=CJ (O:=O) h3;have cf:∀ c∈Ab.rep (K3 z) m,K9 c=true:=by
  intro c hc;obtain ⟨i,hi⟩:=List.getElem?_of_mem hc;have hlt:i<m*(K3 z).length:=by rw [<- JM];exact (List.getElem?_eq_some_iff.1 hi).1
  rw [MI _ _ _ hlt] at hi;exact zc3 c (List.mem_of_getElem? hi)
 have hzr:=KR zc2 m (m*i.size) (by rw [hsz]);have AE3:P.cellsOf el=i.size:=by simp [Program.cellsOf,h2]
 have hso:(sizeOf el).run P w= .ok i.size w:=by simp [sizeOf,typeInfo,h2]
 have hu:=FB h1;have e1:IntKind.i64.wrap ((n:Nat):Int)=n:=wrap_small om;have e2:IntKind.i64.wrap ((m:Nat):Int)=m:=wrap_small om;have p48:(2:Int) ^ 48=281474976710656:=by decide
 refine GV.row (v':= .slice (some ⟨w.heap.size,0,none⟩) n m) (arr:=⟨((Array.range (m*i.size)).map fun j=>(⟨z.cells.toList⟩:Array Value)[j % (⟨z.cells.toList⟩:Array Value).size]!).toList⟩) (el:=el) ?_ cf hzr (fun O' n hq=> .slice (off:=0) hq);have AY8:(i.bytes:Int)*(m:Int)<=4294967296:=by
  have h9:=Int.ofNat_le.2 hbm;rw [Int.natCast_mul] at h9;rw [Int.mul_comm];exact h9
 have c2:¬ ((decide (IntKind.i64.wrap (m:Int)<0)||decide ((i.bytes:Int)*IntKind.i64.wrap (m:Int)>2 ^ 48)||decide (IntKind.i64.wrap (n:Int)<0)||decide (IntKind.i64.wrap (n:Int)>IntKind.i64.wrap (m:Int)))=true):=by
  rw [e1,e2,p48,Bool.or_eq_true,Bool.or_eq_true,Bool.or_eq_true,decide_eq_true_eq,decide_eq_true_eq,decide_eq_true_eq,decide_eq_true_eq];omega
 simp only [execOp,ho,hl,hc,Instr.makeSlice,Sem.run_bind,F0 hu,Result.andThen_ok,asInt,asIntOf,Sem.run_pure,Xi h2,Int.ofNat_eq_natCast];rw [if_neg c2];rw [e1,e2];simp only [Sem.run_bind,run_askRoom,Result.andThen_ok,hso,Int.toNat_natCast,Sem.run_ite];by_cases h0:m*i.size=0
 ·rw [if_pos h0];simp only [Sem.run_bind,Sem.run_pure,Result.andThen_ok,newRow,run_newObj];congr 4;rw [h0];simp
 ·rw [if_neg h0];simp only [Sem.run_bind,Sem.run_pure,Result.andThen_ok,newRow,run_newObj,hz]
end
section
variable {P:Program} {O:Place} {fr:Fr} {e:Operand->Value} {o:Oper} {w:World} {v:Value}
def Seg (O:Place) (w:World) (q:V9) (off:Nat) (cs:List Value):Prop:=∃ (arr:Array Value) (e:TypeId) (f:Nat×Nat),w.heap[q.c]? =some (.cells arr e f)/\q.o+off+cs.length<=arr.size/\(∀ v∈cs,K9 v=true) /\
 ∀ (i:Nat) (v:Value),cs[i]? =some v->∃ v',arr[q.o+off+i]? =some v'/\H5 O v v'
theorem Row.seg {base:Env}{cells cs:List Value}{q:V9}{off n:Nat}(h:Row base O w q cells) (hs:sub cells off n=some cs):Seg O w q off cs/\cs.length=n:=by
 obtain ⟨arr,el,lo,hi,h1,h0,h2,h3,h4,h5⟩:=h;obtain ⟨h6,rfl⟩:=sub_eq hs;refine ⟨⟨arr,el,(lo,hi),h1,by simp;omega,fun v hv=>h4 v (List.mem_of_mem_drop (List.mem_of_mem_take hv)),fun i v hv=>?_⟩,by simp;omega⟩;have hi':i<n:=by
  rcases Nat.lt_or_ge i n with hh|hh
  ·exact hh
  ·rw [List.getElem?_eq_none (by simp;omega)] at hv;cases hv
 rw [List.getElem?_take_of_lt hi',List.getElem?_drop] at hv;obtain ⟨v',h7,h8⟩:=h5 _ _ hv;exact ⟨v',by rw [show q.o+off+i=q.o+(off+i) from by omega];exact h7,h8⟩
theorem Seg.read {cs:List Value}{q:V9}{off:Nat}(h:Seg O w q off cs):∃ vs:List Value,(loadCells ⟨q.c,q.o+off,none⟩ cs.length).run P w= .ok vs.toArray w/\D8 O cs vs/\∀ v∈cs,K9 v=true:=by
 obtain ⟨arr,e,f,h1,h2,h4,h5⟩:=h;refine ⟨_,run_read h1 cs.length om,?_,h4⟩;apply D8.EN
 ·simp;omega
 ·intro i v hv;have hi':i<cs.length:=(List.getElem?_eq_some_iff.1 hv).1;rw [List.getElem?_take_of_lt hi',List.getElem?_drop];obtain ⟨v',h7,h8⟩:=h5 _ _ hv;exact ⟨v',by rw [Array.getElem?_toList];exact h7,h8⟩
theorem Seg.one {cs:List Value}{q:V9}{off:Nat}(h:Seg O w q off cs) (hv:Hk cs=some v) :
  ∃ v',(load ⟨q.c,q.o+off,none⟩).run P w= .ok v' w/\H5 O v v':=by
 obtain ⟨arr,el,f,h1,h2,h4,h5⟩:=h;obtain ⟨v',h7,h8⟩:=h5 0 v (by rw [RG hv];rfl);refine ⟨v',?_,h8⟩;rw [run_load,GB h1,show q.o+off=q.o+off+0 from rfl,h7]
theorem Row.one {base:Env}{cells cs:List Value}{q:V9}{off:Nat}(h:Row base O w q cells) (hs:sub cells off 1=some cs) (hv:Hk cs=some v) :
  ∃ v',(load ⟨q.c,q.o+off,none⟩).run P w= .ok v' w/\H5 O v v':=(h.seg hs).1.one hv
theorem R4 {Z:St}{b off n:Nat}{cs:List Value}(h:Z.read b off n=some cs):∃ B,Z.BE b=some B/\sub B.cells off n=some cs:=A4 h
theorem Rel.seg {base:Env}{Z:St}(hR:Rel base O Z w){b off n:Nat}{q:V9}{cs:List Value}(hq:O b=some q) (h:Z.read b off n=some cs):Seg O w q off cs:=by
 obtain ⟨B,h1,h2⟩:=R4 h;exact ((hR.row b q B hq h1).seg h2).1
theorem HL {Z:St}{b off n:Nat}{cs:List Value}(h:Z.read b off n=some cs):cs.length=n:=by
 obtain ⟨B,h1,h2⟩:=R4 h;obtain ⟨h3,h4⟩:=sub_eq h2;rw [h4];simp;omega
theorem WE {Z:St}{t:TypeId}{x:Operand}{r:AN}(ho:o.op= .load t x) (hk:O6 O fr e o.op.operands.toList) (h:Fo P fr Z t x=some (v,r))
  (oc:∀ q cs,O r.b=some q->Z.read r.b r.off r.n=some cs->Seg O w q r.off cs):AP P O e o w v:=by
 obtain ⟨u,h1,k1⟩:=A4 h;obtain ⟨⟨b',off⟩,h2,k2⟩:=A4 k1;obtain ⟨m,hm,k2⟩:=A4 (show ob (span? P t) _=some (v,r) from k2);obtain ⟨v0,h3,k3⟩:=A4 (show ob (YE P Z t b' off) _=some (v,r) from k2);clear h k1 k2;cases k3;obtain ⟨q,hq,hx⟩:=Im (hk x u (by simp [ho,Op.operands]) h1) h2;obtain ⟨g,h4,h5⟩:=A4 h3;obtain ⟨g',hg',hm⟩:=A4 hm;rw [h4] at hg';cases hg';have hg:=Ru h4 w;cases g with
 | true =>
   obtain ⟨n,h6,h7⟩:=A4 (show ob (size? P t) _=some v from h5);obtain ⟨cs,h8,h9⟩:=A4 h7;cases h9;rw [show size? P t=some m from hm] at h6;cases h6;obtain ⟨vs,k1,k2,k3⟩:=(oc q cs hq h8).read (P:=P);rw [HL h8] at k1;refine ⟨.agg vs.toArray,?_,.agg k3 k2⟩;simp only [execOp,ho,hx,Instr.loadAt,Instr.sureAddr,Sem.run_bind,Sem.run_pure,Result.andThen_ok,loadVar,hg,if_true,Aj (show size? P t=some m from hm),k1]
 | false =>
   cases hm;obtain ⟨cs,h8,h9⟩:=A4 (show ob (Z.read b' off 1) _=some v from h5);obtain ⟨v',k1,k2⟩:=(oc q cs hq h8).one (P:=P) h9;refine ⟨v',?_,k2⟩;simp only [execOp,ho,hx,Instr.loadAt,Instr.sureAddr,Sem.run_bind,Sem.run_pure,Result.andThen_ok,loadVar,hg,Bool.false_eq_true,if_false,k1]
theorem Fp {u u':Value}{p:AN}(h:H5 O u u') (hp:Kh u=some p):∃ q a k',O p.b=some q/\u'= .slice (some a) p.n k'/\(a=⟨q.c,q.o+p.off,none⟩\/p.n=0):=by
 unfold Kh at hp;split at hp
 ·cases hp;cases h with
  | slice hq=>exact ⟨_,_,_,hq,rfl,.inl rfl⟩
  | grow hq _ _=>exact ⟨_,_,_,hq,rfl,.inl rfl⟩
  | Al hq=>exact ⟨_,_,_,hq,rfl,.inr rfl⟩
  | H9 hs=>simp [H9] at hs
 ·cases hp
theorem XI {P:Program}{w:World}:∀ (l:List Value) (r:List UInt8) (s:ByteArray),DK l=some r ->
  (forIn l s (fun (c:Value) (s:ByteArray)=>(match c with
    | .int .u8 n=>pure (ForInStep.yield (s.push (UInt8.ofNat n.toNat)))
    | _=>do
      stuck "bytesToString: byte expected"
      pure (ForInStep.yield s):Sem (ForInStep ByteArray)))).run P w= .ok ⟨(s.data.toList++r).toArray⟩ w:=by
 intro l;induction l with
 | nil=>intro r s h;cases h;simp [forIn,List.forIn']
 | cons v l ih =>
   intro r s h;obtain ⟨b,h1,h2⟩:=A4 (show ob (QY v) (fun b=>ob (DK l) fun bs=>some (b::bs))=some r from h);obtain ⟨bs,h3,h4⟩:=A4 h2;cases h4;unfold QY at h1;split at h1
   ·cases h1;rw [List.forIn_cons];simp only [Sem.run_bind,Sem.run_pure,Result.andThen_ok];rw [ih bs _ h3];simp [ByteArray.push]
   ·cases h1
theorem D8.DK {l l':List Value}{r:List UInt8}(h:D8 O l l') (hu:Ab.DK l=some r):Ab.DK l'=some r:=by
 induction l generalizing l' r with
 | nil=>cases h;exact hu
 | cons v l ih =>
   cases h with
   | cons hv hs =>
   rename_i v' l';obtain ⟨b,h1,h2⟩:=A4 (show ob (QY v) (fun b=>ob (Ab.DK l) fun bs=>some (b::bs))=some r from hu);obtain ⟨bs,h3,h4⟩:=A4 h2;cases h4;show ob (QY v') (fun b=>ob (Ab.DK l') fun bs=>some (b::bs))=_;have:v'=v:=by
    unfold QY at h1;split at h1
    ·cases hv;rfl
    ·cases h1
   rw [this,h1,ih hs h3];rfl
theorem br {d:Option TypeDesc}(h:isByte d=true):d=some (.int .u8):=by
 unfold isByte at h;split at h
 ·rfl
 ·cases h
theorem jI {d:Option TypeDesc}(h:isStr d=true):d=some .string:=by
 unfold isStr at h;split at h
 ·rfl
 ·cases h
theorem RW {Z:St}{s d:TypeId}{x:Operand}{r:AN}(ho:o.op= .convert s d x) (hk:O6 O fr e o.op.operands.toList) (h:Bl P fr Z s d x=some (v,r))
  (oc:∀ q cs,O r.b=some q->Z.read r.b r.off r.n=some cs->Seg O w q r.off cs):AP P O e o w v:=by
 obtain ⟨u,h1,k1⟩:=A4 h;obtain ⟨⟨b',off,n⟩,h2,k2⟩:=A4 k1;obtain ⟨el,h3,k3⟩:=A4 (show ob (elem? P s) _=some (v,r) from k2);obtain ⟨h4,k4⟩:=H2 k3;obtain ⟨h5,k5⟩:=H2 k4;obtain ⟨l,h6,k6⟩:=A4 k5;obtain ⟨r',h7,k7⟩:=A4 k6;clear h k1 k2 k3 k4 k5 k6;cases k7;obtain ⟨q,a,k',hq,hx,ha⟩:=Fp (hk x u (by simp [ho,Op.operands]) h1) h2;obtain ⟨vs,k1,k2,k3⟩:=(oc q l hq h6).read (P:=P);rw [HL h6] at k1;have zS:(loadCells a n).run P w= .ok vs.toArray w:=by
  rcases ha with ha|ha
  ·rw [ha];exact k1
  ·change n=0 at ha;subst ha;have:vs=[]:=by
    have h12:=k2.length;rw [HL h6] at h12;exact List.length_eq_zero_iff.1 h12.symm
   subst this;rfl
 refine ⟨.string ⟨r'.toArray⟩,?_,.H9 rfl⟩;simp only [execOp,ho,hx,convert,Sem.run_bind,F0 (FB h3),F0 (jI h5),Result.andThen_ok,F0 (br h4),Conv.bytesToString,zS,Sem.run_pure];have hl:=XI (P:=P) (w:=w) vs r' ByteArray.empty (k2.DK h7);rw [List.forIn_toArray];refine (congrArg (fun r:Result ByteArray=>(r.andThen fun a w'=>Result.ok (Value.string a) w').andThen fun a w'=>Result.ok (Next.value a) w') hl).trans ?_;rfl
def zT (v:Value):Next->Prop
 | .value v'=>v'=v
 | .skip=>v=undef
 | _=>False
def Hp (P:Program) (base:Env) (O:Place) (e:Operand->Value) (o:Oper) (Z:St) (w:World) (Z':St) (v:Value):Prop :=
 ∃ (w':World) (nx:Next) (v':Value) (O':Place),(execOp e o).run P w= .ok nx w'/\zT v' nx/\Rel base O' Z' w'/\R9 O Z w O' Z' w'/\H5 O' v v'
theorem TW {base:Env}{Z Z':St}{t:TypeId}{x y:Operand}(ho:o.op= .store t x y) (hk:O6 O fr e o.op.operands.toList) (hR:Rel base O Z w)
  (h:Ek P fr Z t x y=some (v,Z')):Hp P base O e o Z w Z' v:=by
 obtain ⟨a,h1,k1⟩:=A4 h;obtain ⟨u,h2,k2⟩:=A4 k1;obtain ⟨Z1,h3,k3⟩:=A4 k2;clear h k1 k2;cases k3;obtain ⟨⟨b,off⟩,h4,k4⟩:=A4 h3;obtain ⟨n,h5,k5⟩:=A4 (show ob (size? P t) _=some Z' from k4);obtain ⟨ht,k6⟩:=HP k5;obtain ⟨h6,h7⟩:=H2 k6;clear h3 k4 k5 k6;have hn:=Nat.eq_of_beq_eq_true h6;obtain ⟨q,hq,hx⟩:=Im (hk x a (by simp [ho,Op.operands]) h1) h4;obtain ⟨c1,c2⟩:=(hk y u (by simp [ho,Op.operands]) h2).cells ht;obtain ⟨w1,w2,w3⟩:=hR.write hq h7 c1 c2;refine ⟨_,.skip,undef,O,?_,rfl,w2,w3,.tuple .nil⟩;have hl:=c1.length;have hsz:(e y).cells.size=n:=by rw [<- Array.length_toList,<- hl,hn]
 simp only [execOp,ho,hx,Instr.storeAt,Instr.sureAddr,Sem.run_bind,Sem.run_pure,Result.andThen_ok,storeVar,Aj h5,ne_eq];rw [if_neg (by simp [hsz])];rw [w1 P];rfl
theorem Qm {base:Env}{Z:St}{size n:Nat}{x x':Value}{new:List Value}(hR:Rel base O Z w) (hx:H5 O x x') (h:Y7 Z size x=some (n,new)) :
  (Builtin.lenOf x').run P w= .ok n w/\new.length=n*size/\(∀ v∈new,K9 v=true) /\
  ∀ k,k<=n->∃ AF,(Builtin.firstCells size k x').run P w= .ok (AF:List Value).toArray w/\D8 O (new.take (k*size)) AF:=by
 unfold Y7 at h;split at h
 ·rename_i n0 cap;obtain ⟨h1,h2⟩:=H2 h;cases h2;have:=Nat.eq_of_beq_eq_true h1;subst this;cases hx with
  | H9 hs =>
    refine ⟨rfl,by simp,by simp,fun k hk=>?_⟩;have:k=0:=om;subst this;exact ⟨[],rfl,by simp;exact .nil⟩
 ·rename_i b off sp n0 cap;obtain ⟨cs,h1,h2⟩:=A4 h;cases h2;obtain ⟨q,a,k',hq,hx',ha⟩:=Fp (p:=⟨b,off,n⟩) hx rfl;obtain ⟨B,h10,h11⟩:=R4 h1;obtain ⟨h12,h13⟩:=sub_eq h11;have Fc:=hR.row b q B hq h10;subst hx';have hlen:new.length=n*size:=by
   have:=congrArg List.length h13;simp at this;omega
  refine ⟨rfl,hlen,?_,fun k hk=>?_⟩
  ·obtain ⟨_,_,_,k3⟩:=Fc.read (P:=P) h11;exact k3
  ·have hks:k*size<=n*size:=Nat.mul_le_mul_right size hk;obtain ⟨vs,k1,k2,k3⟩:=Fc.read (P:=P) (off:=off) (n:=k*size) (r9 om);refine ⟨vs,?_,?_⟩
   ·rcases ha with ha|ha
    ·simp only [Builtin.firstCells];rw [ha];exact k1
    ·change n=0 at ha;have hk0:k=0:=om;subst hk0;have:vs=[]:=by
      have:=k2.length;simp at this;exact List.length_eq_zero_iff.1 this.symm
     subst this;simp only [Builtin.firstCells,Nat.zero_mul];rfl
   ·have h14:new.take (k*size)=(B.cells.drop off).take (k*size):=by
     rw [h13,List.take_take,Nat.min_eq_left hks]
    rw [h14];exact k2
 ·rename_i s;obtain ⟨h1,h2⟩:=H2 h;cases h2;have hs1:=Nat.eq_of_beq_eq_true h1;subst hs1;cases hx with
  | H9 hs =>
    have hsz:s.size=s.data.toList.length:=Array.length_toList.symm;refine ⟨by simp only [Builtin.lenOf,Sem.run_pure,hsz],by simp [J3],DF (FC _),fun k hk=>⟨J3 (s.data.toList.take k),?_,?_⟩⟩
    ·simp only [Builtin.firstCells,Sem.run_pure];congr 1;rw [Hw s 0 k hk];simp [J3]
    ·rw [Nat.mul_one];have:(J3 s.data.toList).take k=J3 (s.data.toList.take k):=by simp [J3]
     rw [this];exact D8.JL (FC _)
 ·cases h
theorem bw {n:Nat}{l r:List Value}(h:takeN n l=some r):r=l.take n/\n<=l.length:=⟨(OW _ _ _ h).2,(OW _ _ _ h).1⟩
theorem PR {base:Env}{Z Z':St}{b off:Nat}{q:V9}(hR:Rel base O Z w) (hq:O b=some q) (h:Z.write b off []=some Z'):Rel base O Z' w/\R9 O Z w O Z' w:=by
 obtain ⟨_,w2,w3⟩:=hR.write hq h .nil (by simp);exact ⟨w2,w3⟩
theorem cg {l:List Value}{x y:Value}(h:fV l=some (x,y)):l=[x,y]:=by
 unfold fV at h;split at h
 ·cases h;rfl
 ·cases h
theorem Up {base:Env}{Z Z':St}{b off n:Nat}{q:V9}{a:Addr}{vs vs':List Value}(hR:Rel base O Z w) (hq:O b=some q) (ha:a=⟨q.c,q.o+off,none⟩\/n=0)
  (hn:n=0->vs=[]) (h:Z.write b off vs=some Z') (hr:D8 O vs vs') (hc:∀ v∈vs,K9 v=true) :
  ∃ w',(storeCells a vs').run P w= .ok () w'/\Rel base O Z' w'/\R9 O Z w O Z' w':=by
 rcases ha with ha|ha
 ·subst ha;obtain ⟨w1,w2,w3⟩:=hR.write hq h hr hc;exact ⟨_,w1 P,w2,w3⟩
 ·have:=hn ha;subst this;cases hr;obtain ⟨w2,w3⟩:=PR hR hq h;exact ⟨w,rfl,w2,w3⟩
theorem WG {base:Env}{Z Z':St}{c:Call}(ho:o.op= .call c) (hc:c.callee= .builtin .copy) (hk:O6 O fr e o.op.operands.toList) (hR:Rel base O Z w)
  (h:qe P fr Z c=some (v,Z')):Hp P base O e o Z w Z' v:=by
 obtain ⟨vs,h1,k1⟩:=A4 h;obtain ⟨⟨d,s⟩,h2,k2⟩:=A4 k1;obtain ⟨t,h3,k3⟩:=A4 (show ob (Mo c) _=some (v,Z') from k2);obtain ⟨el,h4,k4⟩:=A4 (show ob (elem? P t) _=some (v,Z') from k3);obtain ⟨size,h5,k5⟩:=A4 k4;obtain ⟨⟨b,off,dl⟩,h6,k6⟩:=A4 k5;obtain ⟨⟨n,cs⟩,h7,k7⟩:=A4 (show ob (Y7 Z size s) _=some (v,Z') from k6);obtain ⟨cs2,h8,k8⟩:=A4 (show ob (takeN (Nat.min n dl*size) cs) _=some (v,Z') from k7);obtain ⟨Z2,h9,k9⟩:=A4 k8;clear h k1 k2 k3 k4 k5 k6 k7 k8;cases k9;have hr:=(Cw ho hk).evs h1;rw [cg h2] at hr;generalize hE:c.args.toList.map e=L at hr;cases hr with
 | cons hd hs =>
 cases hs with
 | cons hs VQ =>
 cases VQ;rename_i d' s';have Ce:c.args.map e=#[d',s']:=by rw [Gk,hE]
 obtain ⟨q,a,k',hq,hd',ha⟩:=Fp hd h6;change d'= .slice (some a) dl k' at hd';change a=⟨q.c,q.o+off,none⟩\/dl=0 at ha;subst hd';obtain ⟨s1,s2,s3,s4⟩:=Qm (P:=P) hR hs h7;obtain ⟨AF,s5,s6⟩:=s4 (Nat.min n dl) (Nat.min_le_left _ _);obtain ⟨rfl,s7⟩:=bw h8;obtain ⟨w',g1,g2,g3⟩:=Up (P:=P) hR hq ha (fun h0=>by subst h0;simp) h9 s6 (fun v hv=>s3 v (List.mem_of_mem_take hv));refine ⟨w',.value _,_,O,?_,rfl,g2,g3,.H9 rfl⟩;have hm:Nat.min n dl=min n dl:=rfl;simp only [execOp,ho,resolve,hc,Sem.run_bind,Sem.run_pure,Result.andThen_ok,invoke,builtin,Builtin.copy_,Bk h3,Ce];simp [F0 (FB h4),s1,Aj h5,goInt];rw [s5];simp only [Result.andThen_ok,g1]
theorem TX {base:Env}{Z Z':St}{c:Call}(ho:o.op= .call c) (hc:c.callee= .builtin .clear) (hk:O6 O fr e o.op.operands.toList) (hR:Rel base O Z w)
  (h:jG P fr Z c=some (v,Z')):Hp P base O e o Z w Z' v:=by
 obtain ⟨vs,h1,k1⟩:=A4 h;obtain ⟨x,h2,k2⟩:=A4 k1;obtain ⟨t,h3,k3⟩:=A4 k2;obtain ⟨el,h4,k4⟩:=A4 (show ob (elem? P t) _=some (v,Z') from k3);obtain ⟨z,h5,k5⟩:=A4 k4;obtain ⟨⟨b,off,n⟩,h6,k6⟩:=A4 k5;obtain ⟨Z2,h9,k9⟩:=A4 (show ob (Z.write b off (rep (K3 z) n)) _=some (v,Z') from k6);clear h k1 k2 k3 k4 k5 k6;cases k9;have hr:=(Cw ho hk).evs h1;rw [RG h2] at hr;generalize hE:c.args.toList.map e=L at hr;cases hr with
 | cons hx hs =>
 cases hs;rename_i x';have Ce:c.args.map e=#[x']:=by rw [Gk,hE]
 obtain ⟨q,a,k',hq,hx',ha⟩:=Fp hx h6;change x'= .slice (some a) n k' at hx';change a=⟨q.c,q.o+off,none⟩\/n=0 at ha;subst hx';obtain ⟨hz,_,_⟩:=Cb (O:=O) h5 w;obtain ⟨zc1,zc2,zc3⟩:=CJ (O:=O) h5;have cf:∀ c∈Ab.rep (K3 z) n,K9 c=true:=by
  intro c hc;obtain ⟨i,hi⟩:=List.getElem?_of_mem hc;have hlt:i<n*(K3 z).length:=by rw [<- JM];exact (List.getElem?_eq_some_iff.1 hi).1
  rw [MI _ _ _ hlt] at hi;exact zc3 c (List.mem_of_getElem? hi)
 have hzr:=KR zc2 n (n*z.cells.size) (by rw [zc2.length,Array.length_toList]);obtain ⟨w',g1,g2,g3⟩:=Up (P:=P) hR hq ha (fun h0=>by subst h0;rfl) h9 hzr cf;refine ⟨w',.value _,_,O,?_,rfl,g2,g3,.tuple .nil⟩;have hu:=FB h4;by_cases h0:n=0
 ·subst h0;have hw:w'=w:=by
   have:((Array.range (0*z.cells.size)).map fun i=>(⟨z.cells.toList⟩:Array Value)[i % (⟨z.cells.toList⟩:Array Value).size]!).toList=[]:=by simp
   rw [this] at g1;cases g1;rfl
  subst hw;simp only [execOp,ho,resolve,hc,Sem.run_bind,Sem.run_pure,Result.andThen_ok,invoke,builtin,Builtin.clear_,Bk h3,Ce];simp [F0 hu]
 ·simp only [execOp,ho,resolve,hc,Sem.run_bind,Sem.run_pure,Result.andThen_ok,invoke,builtin,Builtin.clear_,Bk h3,Ce];have hg:(storeCells a (Builtin.zeroCells z.cells n).toList).run P w= .ok () w':=g1;obtain ⟨m,rfl⟩:∃ m,n=m+1:=⟨n-1,om⟩
  simp [F0 hu,hz,hg]
theorem od (PL:Nat):∀ (k c:Nat),256<=c->c<PL->Builtin.growBy PL k c<=2*PL:=by
 intro k;induction k with
 | zero=>intro c _ h;unfold Builtin.growBy;omega
 | succ k ih =>
   intro c h1 h2;unfold Builtin.growBy;rw [if_neg om];by_cases h3:c+(c+768) / 4<PL
   ·exact ih _ om h3
   ·cases k with
    | zero=>unfold Builtin.growBy;omega
    | succ k=>unfold Builtin.growBy;rw [if_pos om];omega
theorem jw (PL cap:Nat) (h:cap<PL):Builtin.nextslicecap PL cap<=2*PL:=by
 unfold Builtin.nextslicecap;split
 ·omega
 ·split
  ·omega
  ·exact od PL 4 cap om h
end
section
variable {P:Program} {O:Place} {fr:Fr} {e:Operand->Value} {o:Oper} {w:World} {v:Value}
theorem Rel.heap {base:Env}{Z:St}{w w':World}(h:Rel base O Z w) (hw:w'.heap=w.heap):Rel base O Z w' :=
 ⟨h.fresh,fun b q B h1 h2=>(h.Fb b q B h1 h2).mono (Place.le_refl _) (by rw [hw]),fun b q h1=>by rw [hw];exact h.dom b q h1,h.own,h.sep,by rw [hw];exact h.low⟩
theorem ZI {d:Option TypeDesc}(h:IU d=true):∃ d',d=some d'/\IU (some d')=true:=by
 cases d with
 | none=>cases h
 | some d=>exact ⟨d,rfl,h⟩
theorem DQ {c:Call}{t:TypeId}(h:Xl c=some t):c.argTypes[1]? =some t:=by
 unfold Xl at h;split at h
 ·rename_i u u2 r hu;cases h;have:=congrArg (fun l:List TypeId=>l[1]?) hu
  simpa using this
 ·cases h
theorem CC {ts:Array TypeId}{ty t t2 el:TypeId}{i:TypeInfo}{d2:TypeDesc}{base':Option Addr}{len AZ n:Nat}{x':Value}{AF:Array Value}{w':World}
  (h0:ts[0]? =some t) (h1:ts[1]? =some t2) (hu:P.underlying t=some (.slice el)) (hu2:P.underlying t2=some d2) (hd2:IU (some d2)=true) (hi:P.info? el=some i)
  (hn:(Builtin.lenOf x').run P w= .ok n w) (hx:(Builtin.firstCells i.size n x').run P w= .ok AF w) (hle:len+n<=AZ)
  (hst:match base' with|some a=>(storeCells (a.add (len*i.size)) AF.toList).run P w= .ok () w'|none=>w'=w) :
  (Builtin.append_ ts ty #[.slice base' len AZ,x']).run P w= .ok (.slice base' (len+n) AZ) w':=by
 have hso:(sizeOf el).run P w= .ok i.size w:=by simp [sizeOf,typeInfo,hi]
 have a0:(#[Value.slice base' len AZ,x']:Array Value)[0]? =some (.slice base' len AZ):=rfl;have a1:(#[Value.slice base' len AZ,x']:Array Value)[1]? =some x':=rfl;unfold Builtin.append_;simp only [h0,h1,a0,a1,Sem.run_bind,F0 hu,Result.andThen_ok,hso,F0 hu2,Sem.run_pure];cases base' with
 | none =>
   subst hst
   cases d2 <;> first
    | (cases hd2;done)
    | (simp only [Bool.false_eq_true,if_false,Sem.run_bind,hn,Result.andThen_ok,Sem.run_ite,if_pos hle,Bool.not_false,if_true,hx,Sem.run_pure])
 | some a =>
   cases d2 <;> first
    | (cases hd2;done)
    | (simp only [Bool.false_eq_true,if_false,Sem.run_bind,hn,Result.andThen_ok,Sem.run_ite,if_pos hle,Bool.not_false,if_true,hx,hst,Sem.run_pure])
theorem EU {ts:Array TypeId}{ty t t2 el:TypeId}{i:TypeInfo}{d2:TypeDesc}{base':Option Addr}{len AZ n:Nat}{x' z:Value}{old' AF:Array Value}
  (h0:ts[0]? =some t) (h1:ts[1]? =some t2) (hu:P.underlying t=some (.slice el)) (hu2:P.underlying t2=some d2) (hd2:IU (some d2)=true) (hi:P.info? el=some i) (hz:i.zero=some z)
  (hn:(Builtin.lenOf x').run P w= .ok n w) (hold:(Builtin.firstCells i.size len (.slice base' len AZ)).run P w.drew= .ok old' w.drew) (hx:(Builtin.firstCells i.size n x').run P w.drew= .ok AF w.drew)
  (hlt:AZ<len+n) (Cc:(len+n)*(i.bytes+1)<=room) :
  ∃ K,len+n<=K/\(Builtin.append_ ts ty #[.slice base' len AZ,x']).run P w =
   .ok (.slice (some ⟨w.heap.size,0,none⟩) (len+n) K) { w.drew with heap:=w.heap.push (.cells (old'++AF++Builtin.zeroCells z.cells (K-(len+n))) el) }:=by
 have hso:∀ w,(sizeOf el).run P w= .ok i.size w:=fun w=>by simp [sizeOf,typeInfo,hi]
 have hzo:∀ w,(zeroValue el).run P w= .ok z w:=fun w=>by simp [zeroValue,typeInfo,hi,hz]
 have a0:(#[Value.slice base' len AZ,x']:Array Value)[0]? =some (.slice base' len AZ):=rfl;have a1:(#[Value.slice base' len AZ,x']:Array Value)[1]? =some x':=rfl;refine ⟨(Question.appendCap (len+n) AZ el).cut (w.tape w.drawn (.appendCap (len+n) AZ el)),Nat.le_add_right _ _,?_⟩;have hf:(Question.appendCap (len+n) AZ el).forced=false:=rfl;generalize hK:(Question.appendCap (len+n) AZ el).cut (w.tape w.drawn (.appendCap (len+n) AZ el))=K;unfold room at Cc;have hb1:len+n<=4294967296:=Nat.le_trans (Nat.le_mul_of_pos_right _ om) Cc;have hb2:(len+n)*i.bytes<=4294967296:=Nat.le_trans (Nat.mul_le_mul_left _ om) Cc;have hc1:¬ (((len+n:Nat):Int)>IntKind.i64.max):=by
  have e3:IntKind.i64.max=9223372036854775807:=by decide
  rw [e3];omega
 have hc2:¬ (Builtin.nextslicecap (len+n) AZ*i.bytes>2 ^ 48):=by
  have p48:(2:Nat) ^ 48=281474976710656:=by decide
  have h3:=jw (len+n) AZ hlt;have h4:Builtin.nextslicecap (len+n) AZ*i.bytes<=2*(len+n)*i.bytes:=Nat.mul_le_mul_right _ h3;rw [Nat.mul_assoc] at h4;rw [p48];omega
 have hcc:∀ (p:Prop),¬ (((len+n:Nat):Int)>IntKind.i64.max/\p):=fun p h=>hc1 h.1;unfold Builtin.append_;simp only [h0,h1,a0,a1,Sem.run_bind,F0 hu,Result.andThen_ok,hso,F0 hu2,Sem.run_pure]
 cases d2 <;> first
  | (cases hd2;done)
  | (simp only [Bool.false_eq_true,if_false,Sem.run_bind,hn,Result.andThen_ok,Sem.run_ite,if_neg (Nat.not_le.2 hlt),Bool.not_false,if_true,Xi hi,if_neg (hcc _),if_neg hc2,run_choose,hf,hK,run_askRoom,World.drew_eq,hold,hx,hzo,newRow,run_newObj,Sem.run_pure]
     rfl)
theorem Og (zero:Array Value) (n:Nat):(Builtin.zeroCells zero n).size=n*zero.size:=by simp [Builtin.zeroCells]
theorem KU {base:Env}{Z:St}{old new old' AF:List Value}{rest:Array Value}{el:TypeId}{n K size:Nat}(hR:Rel base O Z w) (hf:O Z.n=none)
  (ho:D8 O old old') (hn:D8 O new AF) (co:∀ v∈old,K9 v=true) (cn:∀ v∈new,K9 v=true) (hK:n<=K) (hsz:K*size<=old'.length+AF.length+rest.size) {t:Option TypeId} (ht:∀ x,t=some x->x=el:=by exact fun _ h=>by cases h) :
  ∃ O',Rel base O' (Z.new (old++new) t) { w.drew with heap:=w.heap.push (.cells (old'.toArray++AF.toArray++rest) el) } /\
   R9 O Z w O' (Z.new (old++new) t) { w.drew with heap:=w.heap.push (.cells (old'.toArray++AF.toArray++rest) el) } /\
   H5 O' (.slice (some ⟨Z.n,0,some size⟩) n n) (.slice (some ⟨w.heap.size,0,none⟩) n K):=by
 obtain ⟨g1,g2⟩:=hR.new (t:=t) (w':={ w.drew with heap:=w.heap.push (.cells (old'.toArray++AF.toArray++rest) el) }) hf (cs:=old++new) (arr:=old'.toArray++AF.toArray++rest) (e:=el) (lo:=0) (hi:=0)
  (by simp) (by simp) (fun c hc=>by simp [Array.getElem?_push];intro h;omega) ⟨rfl,rfl,rfl⟩ (.inr (Nat.le_refl _))
  (fun v hv=>by rcases List.mem_append.1 hv with hv|hv;exact co v hv;exact cn v hv) ⟨old'++AF,rest.toList,by simp,D8.append hn ho⟩ ht
 exact ⟨_,g1,g2,.grow (q:=⟨w.heap.size,0,_⟩) (Place.P1 _ _ _) hK (by show 0+0+K*size<=_;simp only [Array.size_append,List.size_toArray];omega)⟩
theorem Mn {el off x:Nat}{t:Option TypeId}(h:JP el off t=some x):x=el/\off=0/\t=some x:=by
 obtain ⟨y,rfl,h2⟩:=A4 h;obtain ⟨h1,h3⟩:=H2 h2;obtain ⟨h4,h5⟩:=H2 h3;cases h5;exact ⟨rfl,Nat.eq_of_beq_eq_true h4,by rw [Nat.eq_of_beq_eq_true h1]⟩
theorem qw {Z:St}{b x:Nat}(h:Z.typ b=some x):∃ B,Z.h.get b=some B/\B.kind= .row (some x):=by
 obtain ⟨⟨cells,live,own,ver,kind⟩,h1,h2⟩:=A4 h;cases kind with
 | row t=>exact ⟨_,h1,by cases h2;rfl⟩
 | map=>cases h2
 | loop=>cases h2
theorem Rel.typ {base:Env}{Z:St}(hR:Rel base O Z w){b:Nat}{q:V9}{x:TypeId}(hq:O b=some q) (hb:∃ B,Z.blk b=some B) (h:Z.typ b=some x):q.o=0/\∃ arr f,w.heap[q.c]? =some (.cells arr x f):=by
 obtain ⟨B,h1,h2⟩:=qw h;obtain ⟨B',hB⟩:=hb;obtain ⟨h3,h4⟩:=W9 hB;rw [h1] at h3;cases h3;exact hR.typed hq hB h2 x rfl
theorem VP {base:Env}{Z:St}(hR:Rel base O Z w){b off:Nat}{q:V9}{el:TypeId}(hq:O b=some q) (hb:∃ B,Z.blk b=some B):∀ x,JP el off (Z.typ b)=some x->off=0/\q.o=0/\∃ arr f,w.heap[q.c]? =some (.cells arr x f):=fun x hx =>
 ⟨(Mn hx).2.1,hR.typ hq hb (Mn hx).2.2⟩
theorem Ql {base:Env}{N:Nat}{Z Z':St}{c:Call}(ho:o.op= .call c) (hc:c.callee= .builtin .append) (hk:O6 O fr e o.op.operands.toList) (hR:Rel base O Z w)
  (hF:Ax O Z.n N) (hN:Z'.n<=N) (h:Cd P fr Z c=some (v,Z')):Hp P base O e o Z w Z' v:=by
 obtain ⟨vs,h1,k1⟩:=A4 h;obtain ⟨⟨s,x⟩,h2,k2⟩:=A4 k1;obtain ⟨t,h3,k3⟩:=A4 (show ob (Mo c) _=some (v,Z') from k2);obtain ⟨t2,h4,k4⟩:=A4 k3;obtain ⟨h5,k5⟩:=H2 k4;obtain ⟨el,h6,k6⟩:=A4 (show ob (elem? P t) _=some (v,Z') from k5);obtain ⟨i,h7,k7⟩:=A4 k6;clear h k1 k2 k3 k4 k5 k6;obtain ⟨d2,hu2,hd2⟩:=ZI h5;have hu:=FB h6;have hr:=(Cw ho hk).evs h1;rw [cg h2] at hr;generalize hE:c.args.toList.map e=L at hr;cases hr with
 | cons hs hr =>
 cases hr with
 | cons hx VQ =>
 cases VQ;rename_i s' x';have Ce:c.args.map e=#[s',x']:=by rw [Gk,hE]
 have FG:∀ (r:Value) (w':World),(∀ ty,(Builtin.append_ c.argTypes ty #[s',x']).run P w= .ok r w')->(execOp e o).run P w= .ok (.value r) w':=by
  intro r w' hh;simp only [execOp,ho,resolve,hc,Sem.run_bind,Sem.run_pure,Result.andThen_ok,invoke,builtin,Ce,hh]
 split at k7
 ·rename_i bs len cap;obtain ⟨⟨n,new⟩,h8,k8⟩:=A4 k7;obtain ⟨h9,k9⟩:=H2 (show bb (Nat.ble 1 i.size) _=some (v,Z') from k8);clear k7 k8;have qC:=Nat.le_of_ble_eq_true h9;obtain ⟨s1,s2,s3,s4⟩:=Qm (P:=P) hR hx h8;obtain ⟨AF,s5,s6⟩:=s4 n (Nat.le_refl _);rw [<- s2,List.take_length] at s6;cases hle:Nat.ble (len+n) cap with
  | true =>
    rw [hle] at k9;have jx:=Nat.le_of_ble_eq_true hle;change BF Z i.size bs len cap n new=some (v,Z') at k9;unfold BF at k9;split at k9
    ·rename_i b off sp;obtain ⟨Z2,h10,k10⟩:=A4 k9;cases k10;cases hs with
     | slice hq =>
       obtain ⟨w1,w2,w3⟩:=hR.write hq h10 s6 s3;refine ⟨_,.value _,_,O,FG _ _ fun ty=>CC (Bk h3) (DQ h4) hu hu2 hd2 h7 s1 s5 jx ?_,rfl,w2,w3,.slice hq⟩;simp only [o7];rw [show ∀ q:V9,q.o+off+len*i.size=q.o+(off+len*i.size) from fun q=>Nat.add_assoc _ _ _];exact w1 P
     | grow hq hkk hm =>
       obtain ⟨w1,w2,w3⟩:=hR.write hq h10 s6 s3;refine ⟨_,.value _,_,O,FG _ _ fun ty=>CC (Bk h3) (DQ h4) hu hu2 hd2 h7 s1 s5 (Nat.le_trans jx hkk) ?_,rfl,w2,w3,.grow hq hkk hm⟩;simp only [o7];rw [show ∀ q:V9,q.o+off+len*i.size=q.o+(off+len*i.size) from fun q=>Nat.add_assoc _ _ _];exact w1 P
     | Al hq =>
       have hn0:n=0:=om;subst hn0;have IW:new=[]:=List.length_eq_zero_iff.1 (by rw [s2,Nat.zero_mul]);subst IW;cases s6;obtain ⟨w2,w3⟩:=PR hR hq h10;refine ⟨w,.value _,_,O,FG _ _ fun ty=>CC (Bk h3) (DQ h4) hu hu2 hd2 h7 s1 s5 jx ?_,rfl,w2,w3,.Al hq⟩;rfl
     | H9 hsc=>simp [H9] at hsc
    ·obtain ⟨h10,k10⟩:=H2 k9;cases k10;have h0:=Nat.eq_of_beq_eq_true h10;cases hs with
     | H9 hsc =>
       have hl:len=0:=om;have hn0:n=0:=om;have hca:cap=0:=om;subst hl hn0 hca;refine ⟨w,.value _,_,O,FG _ _ fun ty=>CC (Bk h3) (DQ h4) hu hu2 hd2 h7 s1 s5 jx rfl,rfl,hR,.refl _ _ _,.H9 rfl⟩
  | false =>
    rw [hle] at k9;have hlt:cap<len+n:=by
     rcases Nat.lt_or_ge cap (len+n) with hh|hh
     ·exact hh
     ·rw [Nat.ble_eq_true_of_le hh] at hle;cases hle
    obtain ⟨h10,k10⟩:=H2 (show bb _ _=some (v,Z') from k9);have Cc:=Nat.le_of_ble_eq_true h10;obtain ⟨z,h11,k11⟩:=A4 k10;obtain ⟨h12,k12⟩:=H2 k11;clear k9 k10 k11;have hzs:=Nat.eq_of_beq_eq_true h12;obtain ⟨_,_,i',hi',hzi⟩:=Cb (O:=O) h11 w;rw [h7] at hi';cases hi';obtain ⟨zc1,zc2,_⟩:=CJ (O:=O) h11;have AE4:z.cells.size=i.size:=by rw [<- hzs,zc1,Array.length_toList]
    have hRd:Rel base O Z w.drew:=hR.heap rfl;obtain ⟨t1,t2',t3,t4⟩:=Qm (P:=P) hRd hx h8;obtain ⟨AY9,t5,t6⟩:=t4 n (Nat.le_refl _);rw [<- t2',List.take_length] at t6;have hnl:=t6.length;have VR:∀ K,len+n<=K->(Builtin.zeroCells z.cells (K-(len+n))).size=(K-(len+n))*i.size:=by intro K _;rw [Og,AE4]
    have cj:∀ K,len+n<=K->K*i.size=len*i.size+n*i.size+(K-(len+n))*i.size:=by
     intro K hK;rw [<- Nat.add_mul,<- Nat.add_mul];congr 1;omega
    unfold AR at k12;split at k12
    ·obtain ⟨h13,k13⟩:=H2 k12;cases k13;have hl:=Nat.eq_of_beq_eq_true h13;subst hl;cases hs with
     | H9 hsc =>
       have ck:cap=0:=by
        cases cap with
        | zero=>rfl
        | succ k=>cases hsc
       subst ck;obtain ⟨K,hK,Dl⟩:=EU (ts:=c.argTypes) (ty:=o.type) (P:=P) (w:=w) (base':=none) (Bk h3) (DQ h4) hu hu2 hd2 h7 hzi s1 (old':=#[]) rfl t5 hlt Cc;have Mp:∀ ty,(Builtin.append_ c.argTypes ty #[.slice none 0 0,x']).run P w=_:=fun ty=>Dl
       obtain ⟨O',g1,g2,g3⟩:=KU (base:=base) (el:=el) (size:=i.size) (n:=n) (K:=K) (old:=[]) (old':=[]) (t:=some el) (ht:=fun x hx=>by cases hx;rfl) (rest:=Builtin.zeroCells z.cells (K-(0+n))) hR (hF Z.n (Nat.le_refl _) (Nat.lt_of_lt_of_le (Nat.lt_succ_self _) hN)) .nil t6 (by simp) t3 om
        (by rw [VR K hK,cj K hK];simp only [List.length_nil];omega)
       exact ⟨_,.value _,_,O',FG _ _ Mp,rfl,g1,g2,by rw [Nat.zero_add];exact g3⟩
    ·rename_i b off;obtain ⟨old,h13,k13⟩:=A4 k12;cases k13;have GW:O Z.n=none:=hF Z.n (Nat.le_refl _) (Nat.lt_of_lt_of_le (Nat.lt_succ_self _) hN);obtain ⟨B,hB,EV⟩:=R4 h13;obtain ⟨hsl,hse⟩:=sub_eq EV;have Mq:old.length=len*i.size:=by have:=congrArg List.length hse;simp at this;omega
     have fin:∀ (q:V9) (a:Addr) (AZ:Nat),O b=some q->s'= .slice (some a) len AZ->(a=⟨q.c,q.o+off,none⟩\/len=0)->AZ<len+n->Hp P base O e o Z w (Z.new (old++new) (some el)) (.slice (some ⟨Z.n,0,some i.size⟩) (len+n) (len+n)):=by
      intro q a AZ hq hs' ha VS;subst hs';obtain ⟨ovs,o1,o2,o3⟩:=(hRd.row b q B hq hB).read (P:=P) EV;have hld:(Builtin.firstCells i.size len (.slice (some a) len AZ)).run P w.drew= .ok ovs.toArray w.drew:=by
       rcases ha with ha|ha
       ·subst ha;exact o1
       ·subst ha;have:ovs=[]:=by have:=o2.length;simp at Mq;rw [Mq] at this;exact List.length_eq_zero_iff.1 this.symm
        subst this;simp only [Builtin.firstCells,Nat.zero_mul];rfl
      obtain ⟨K,hK,Dl⟩:=EU (ts:=c.argTypes) (ty:=o.type) (P:=P) (w:=w) (Bk h3) (DQ h4) hu hu2 hd2 h7 hzi s1 hld t5 VS Cc;have Mp:∀ ty,(Builtin.append_ c.argTypes ty #[.slice (some a) len AZ,x']).run P w=_:=fun ty=>Dl;have hol:=o2.length
      obtain ⟨O',g1,g2,g3⟩:=KU (base:=base) (el:=el) (size:=i.size) (n:=len+n) (K:=K) (t:=some el) (ht:=fun x hx=>by cases hx;rfl) (rest:=Builtin.zeroCells z.cells (K-(len+n))) hR GW o2 t6 o3 t3 hK
       (by rw [VR K hK,cj K hK];omega)
      exact ⟨_,.value _,_,O',FG _ _ Mp,rfl,g1,g2,g3⟩
     cases hs with
     | slice hq=>exact fin _ _ _ hq rfl (.inl rfl) hlt
     | Al hq=>exact fin _ _ _ hq rfl (.inr rfl) hlt
     | H9 hsc=>simp [H9] at hsc
    ·rename_i b off sz;obtain ⟨h13,k13⟩:=H2 k12;obtain ⟨old,h14,k14⟩:=A4 k13;obtain ⟨Z1,h15,k15⟩:=A4 k14;cases k15;have AE5:=Nat.eq_of_beq_eq_true h13;subst AE5;have hn1:Z1.n=Z.n:=by obtain ⟨_,_,_,rfl⟩:=EW h15;rfl
     have GW:O Z.n=none:=hF Z.n (Nat.le_refl _) (by have:(Z1.new (old++new) (JP el off (Z.typ b))).n=Z1.n+1:=rfl;omega);obtain ⟨B,hB,EV⟩:=R4 h14;obtain ⟨hsl,hse⟩:=sub_eq EV;have Mq:old.length=len*i.size:=by have:=congrArg List.length hse;simp at this;omega
     have fin:∀ (q:V9) (a:Addr) (AZ:Nat),O b=some q->s'= .slice (some a) len AZ->(a=⟨q.c,q.o+off,none⟩\/len=0)->AZ<len+n->Hp P base O e o Z w (Z1.new (old++new) (JP el off (Z.typ b))) (.slice (some ⟨Z1.n,0,some i.size⟩) (len+n) (len+n)):=by
      intro q a AZ hq hs' ha VS;subst hs';obtain ⟨ovs,o1,o2,o3⟩:=(hRd.row b q B hq hB).read (P:=P) EV;have hld:(Builtin.firstCells i.size len (.slice (some a) len AZ)).run P w.drew= .ok ovs.toArray w.drew:=by
       rcases ha with ha|ha
       ·subst ha;exact o1
       ·subst ha;have:ovs=[]:=by have:=o2.length;simp at Mq;rw [Mq] at this;exact List.length_eq_zero_iff.1 this.symm
        subst this;simp only [Builtin.firstCells,Nat.zero_mul];rfl
      obtain ⟨K,hK,Dl⟩:=EU (ts:=c.argTypes) (ty:=o.type) (P:=P) (w:=w) (Bk h3) (DQ h4) hu hu2 hd2 h7 hzi s1 hld t5 VS Cc;have Mp:∀ ty,(Builtin.append_ c.argTypes ty #[.slice (some a) len AZ,x']).run P w=_:=fun ty=>Dl;have hol:=o2.length;obtain ⟨hk1,hk2⟩:=hR.kill ⟨q,hq⟩ h15
      obtain ⟨O',g1,g2,g3⟩:=KU (base:=base) (el:=el) (size:=i.size) (n:=len+n) (K:=K) (t:=JP el off (Z.typ b)) (ht:=fun x hx=>(Mn hx).1) (rest:=Builtin.zeroCells z.cells (K-(len+n))) hk1 (by rw [hn1];exact GW) o2 t6 o3 t3 hK
       (by rw [VR K hK,cj K hK];omega)
      exact ⟨_,.value _,_,O',FG _ _ Mp,rfl,g1,hk2.trans g2,g3⟩
     cases hs with
     | grow hq hkk hm =>
       rename_i k' q;by_cases hin:len+n<=k'
       ·rw [<- Mq] at h14;have hmm:q.o+off+old.length+new.length<=q.m:=by
         have:(len+n)*i.size<=k'*i.size:=Nat.mul_le_mul_right _ hin;rw [Nat.add_mul] at this;omega
        obtain ⟨g1,g2,g3⟩:=hR.grow (t:=JP el off (Z.typ b)) GW hq h14 h15 s6 s3 hmm (VP hR hq ⟨B,(W2 hB).1⟩);refine ⟨_,.value _,_,_,FG _ _ fun ty=>CC (Bk h3) (DQ h4) hu hu2 hd2 h7 s1 s5 hin ?_,rfl,g2,g3,?_⟩
        ·simp only [o7,<- Mq];exact g1 P
        ·rw [hn1];exact .grow (q:=⟨q.c,q.o+off,q.m⟩) (off:=0) (Place.P1 _ _ _) hin (by show q.o+off+0+k'*i.size<=q.m;omega)
       ·exact fin _ _ _ hq rfl (.inl rfl) om
     | Al hq=>exact fin _ _ _ hq rfl (.inr rfl) hlt
     | H9 hsc=>simp [H9] at hsc
 ·cases k7
end
theorem Oz (Z:St) (b:Nat){B:Blk}(hl:B.live=true):(⟨Z.h.set b B,Z.n⟩:St).blk b=some B:=KV (Tr.get_set_same _ _ _) hl
theorem Dc (Z:St){b b':Nat}(B:Blk) (h:b'≠b):(⟨Z.h.set b B,Z.n⟩:St).blk b'=Z.blk b':=by
 show ob ((Z.h.set b B).get b') _=_;rw [Tr.I2 _ _ h];rfl
theorem Rel.set {base:Env}{O:Place}{Z:St}{w w':World}(h:Rel base O Z w){b:Nat}{q:V9}{B B':Blk}(hb:O b=some q) (hB:Z.blk b=some B) (hO:B.own=true) (hl:B'.live=true) (hO':B'.own=true)
  (hw:∀ c,c≠q.c->w'.heap[c]? =w.heap[c]?) (hs:w'.heap.size=w.heap.size) (ho:Outside w w') (fq:DR base O w' q B') :
  Rel base O ⟨Z.h.set b B',Z.n⟩ w'/\R9 O Z w O ⟨Z.h.set b B',Z.n⟩ w':=by
 refine ⟨⟨?_,?_,?_,?_,?_,?_⟩,⟨?_,?_,?_,?_,?_,ho,fun b' _ hn=>Tr.I2 _ _ (by intro he;subst he;rw [hb] at hn;cases hn)⟩⟩
 ·intro b' hb';have:=h.lt hB;change Z.n<=b' at hb';show (Z.h.set b _).get b'=none;rw [Tr.I2 _ _ om];exact h.fresh b' hb'
 ·intro b' q' B2 hb' hB';by_cases hbb:b'=b
  ·subst hbb;rw [hb] at hb';cases hb';rw [Oz _ _ hl] at hB';cases hB';exact fq
  ·rw [Dc _ _ hbb] at hB';exact (h.Fb b' q' B2 hb' hB').mono (Place.le_refl _) (hw q'.c (h.sep b q B b' q' hb hB hO hbb hb' (.inr ⟨B2,hB'⟩)))
 ·intro b' q' hb';rw [hs];exact h.dom b' q' hb'
 ·intro b' q' B2 hb' hB' hO2;by_cases hbb:b'=b
  ·subst hbb;rw [hb] at hb';cases hb';exact h.own b' q B hb hB hO
  ·rw [Dc _ _ hbb] at hB';exact h.own b' q' B2 hb' hB' hO2
 ·intro b1 q1 B1 b2 q2 k1 k2 k3 k4 k5 k6;have hl1:∃ B0,Z.blk b1=some B0/\B0.own=true:=by
   by_cases hbb:b1=b
   ·subst hbb;exact ⟨B,hB,hO⟩
   ·rw [Dc _ _ hbb] at k2;exact ⟨B1,k2,k3⟩
  obtain ⟨B0,j1,j2⟩:=hl1;refine h.sep b1 q1 B0 b2 q2 k1 j1 j2 k4 k5 ?_;rcases k6 with k6|⟨B2,k6⟩
  ·exact .inl k6
  ·by_cases hbb:b2=b
   ·subst hbb;exact .inr ⟨B,hB⟩
   ·rw [Dc _ _ hbb] at k6;exact .inr ⟨B2,k6⟩
 ·rw [hs];exact h.low
 ·intro _ _;rfl
 ·exact Nat.le_refl _
 ·omega
 ·intro c' _ hno;refine hw c' fun he=>?_;rw [hno b q B hb he.symm hB] at hO;cases hO
 ·intro b' q' B2 hb' hB' _;by_cases hbb:b'=b
  ·subst hbb;rw [hb] at hb';cases hb';exact ⟨b',q,B,hb,rfl,hB,fun _=>hO⟩
  ·rw [Dc _ _ hbb] at hB';exact ⟨b',q',B2,hb',rfl,hB',fun h=>h⟩
theorem Rel.Dz {base:Env}{O:Place}{Z:St}{w w':World}(h:Rel base O Z w) (hf:O Z.n=none){cs:List Value}{k:Kind}{c:Nat}
  (hc:w.heap.size<=c) (hc':c<w'.heap.size) (hs:w.heap.size<=w'.heap.size) (hold:∀ c,c<w.heap.size->w'.heap[c]? =w.heap[c]?) (ho:Outside w w')
  (fq:DR base (O.put Z.n ⟨c,0,0⟩) w' ⟨c,0,0⟩ ⟨cs,true,true,0,k⟩) :
  Rel base (O.put Z.n ⟨c,0,0⟩) (Z.Dz cs k) w'/\R9 O Z w (O.put Z.n ⟨c,0,0⟩) (Z.Dz cs k) w':=by
 refine ⟨h.wk hf fq hs (fun c hc _=>hold c hc) hc' (by have:=h.low;show base.lo<=c;omega) (fun b q' hb _=>by have:=h.dom b q' hb;show q'.c≠c;omega),⟨?_,?_,?_,?_,?_,ho,fun b h1 _=>Tr.I2 _ _ om⟩⟩
 ·intro b hb;refine Place.AQ _ _ ?_;rcases hb with hb|hb
  ·omega
  ·change Z.n+1<=b at hb;omega
 ·show Z.n<=Z.n+1;omega
 ·exact hs
 ·intro c hc' _;exact hold c hc'
 ·intro b q B hb hB hcs;by_cases hbn:b=Z.n
  ·subst hbn;rw [Place.P1] at hb;cases hb;change c<w.heap.size at hcs;omega
  ·rw [Place.AQ _ _ hbn] at hb;rw [CT _ _ _ hbn] at hB;exact ⟨b,q,B,hb,rfl,hB,fun h=>h⟩
end Go.Ab
namespace Go.Ab
open Go Go.MapKept
section
variable {P:Program} {O:Place} {fr:Fr} {e:Operand->Value} {o:Oper} {w:World} {v:Value}
theorem Rj (a b:ByteArray):Iq a.data.toList b.data.toList=(a==b):=by
 rw [Nz];by_cases h:a=b
 ·subst h;rw [(bytes_beq a a).2 rfl];simp
 ·have h1:(a==b)=false:=by
   cases hh:(a==b) with
   | false=>rfl
   | true=>exact absurd ((bytes_beq a b).1 hh) h
  rw [h1];rw [beq_eq_false_iff_ne];intro hl;apply h;obtain ⟨⟨x⟩⟩:=a;obtain ⟨⟨y⟩⟩:=b;cases hl;rfl
theorem CK {d:Option TypeDesc}{k:Value}(h:Bt d k=true):flat k=true/\H9 k=true/\∃ d',d=some d'/\IsKey d' k:=by
 unfold Bt at h;split at h
 ·split at h
  ·exact ⟨rfl,rfl,_,rfl,by simp [IsKey]⟩
  ·cases h
 ·split at h
  ·have:=Rk h;subst this;exact ⟨rfl,rfl,_,rfl,by simp [IsKey]⟩
  ·cases h
 ·cases h
theorem QL {d:TypeDesc}{k y:Value}{s:Bool}(hk:Bt (some d) k=true) (h:IJ k y=some s):Instr.sameNow d k y=some s/\(s=true->y=k):=by
 unfold Bt at hk;split at hk
 ·rename_i hd;cases hd;split at hk
  ·rename_i s0;unfold IJ at h;cases y with
   | string t =>
     cases h;refine ⟨by simp only [Instr.sameNow];rw [Rj],fun ht=>?_⟩;rw [Rj] at ht;rw [(bytes_beq _ _).1 ht]
   | _=>cases h
  ·cases hk
 ·rename_i ik hd;cases hd;split at hk
  ·rename_i jk n;unfold IJ at h;cases y with
   | int l m =>
     obtain ⟨h1,h2⟩:=H2 h;cases h2;have hkk:=Rk h1;subst hkk;refine ⟨by simp [Instr.sameNow,Js],fun ht=>?_⟩;rw [Js] at ht;rw [eq_of_beq ht]
   | _=>cases h
  ·cases hk
 ·cases hk
theorem UD {d:TypeDesc}{k:Value}(hk:Bt (some d) k=true):∀ {cells:List Value}{es:List MapEntry}{r:Option Value},Entries O cells es->MB k cells=some r->∀ i,
  (r=none->Instr.findNow d k es i=some none)/\∀ v,r=some v->∃ j v',Instr.findNow d k es i=some (some (j,v'))/\H5 O v v':=by
 intro cells es r hE;induction hE with
 | nil =>
   intro h i;cases h;exact ⟨fun _=>rfl,fun v hv=>by cases hv⟩
 | @cons x y en l es hx he hv hE ih =>
   intro h i;obtain ⟨s,h1,h2⟩:=A4 (show ob (IJ k x) _=some r from h);obtain ⟨h3,h4⟩:=QL hk h1;rw [<- he] at h3;cases s with
   | true =>
     cases h2;refine ⟨fun hn=>(nomatch hn),fun v hv'=>?_⟩;cases hv';exact ⟨i,en.val,by simp [Instr.findNow,h3],hv⟩
   | false =>
     obtain ⟨g1,g2⟩:=ih h2 (i+1);refine ⟨fun hn=>by simp [Instr.findNow,h3,g1 hn],fun v hv'=>?_⟩;obtain ⟨j,v',k1,k2⟩:=g2 v hv';exact ⟨j,v',by simp [Instr.findNow,h3,k1],k2⟩
theorem UE {d:TypeDesc}{k u u':Value}(hk:Bt (some d) k=true) (hu:H5 O u u'):∀ {cells P7:List Value}{es:List MapEntry},Entries O cells es->Jt k u cells=some P7->∀ i,
  (Instr.findNow d k es i=some none/\∀ born,Entries O P7 (es++[⟨k,u',born⟩])) \/
  ∃ j v' en,Instr.findNow d k es i=some (some (i+j,v'))/\es[j]? =some en/\en.key=k/\Entries O P7 (es.modify j fun en=>{ en with key:=k,val:=u' }):=by
 intro cells P7 es hE;induction hE generalizing P7 with
 | nil =>
   intro h i;cases h;exact .inl ⟨rfl,fun born=> .cons (CK hk).1 rfl hu .nil⟩
 | @cons x y en l es hx he hv hE ih =>
   intro h i;obtain ⟨s,h1,h2⟩:=A4 (show ob (IJ k x) _=some P7 from h);obtain ⟨h3,h4⟩:=QL hk h1;rw [<- he] at h3;cases s with
   | true =>
     cases h2;exact .inr ⟨0,en.val,en,by simp [Instr.findNow,h3],rfl,by rw [he];exact h4 rfl,.cons (CK hk).1 rfl hu hE⟩
   | false =>
     obtain ⟨r,h5,h6⟩:=A4 (show ob (Jt k u l) _=some P7 from h2);cases h6;rcases ih h5 (i+1) with ⟨g1,g2⟩|⟨j,v',en',g1,g2,g3,g4⟩
     ·exact .inl ⟨by simp [Instr.findNow,h3,g1],fun born=> .cons hx he hv (g2 born)⟩
     ·exact .inr ⟨j+1,v',en',by simp [Instr.findNow,h3,g1];omega,by simpa using g2,g3,by simpa using Entries.cons hx he hv g4⟩
theorem YU {v v':Value}{a:Option Nat}(h:H5 O v v') (hm:mZ v=some a):(a=none/\v'= .map none)\/∃ b q,a=some b/\O b=some q/\v'= .map (some q.c):=by
 unfold mZ at hm;split at hm
 ·cases hm;cases h with
  | H9 hs =>
    cases a with
    | none=>exact .inl ⟨rfl,rfl⟩
    | some b=>simp [H9] at hs
  | map hq=>exact .inr ⟨_,_,rfl,hq,rfl⟩
 ·cases hm
theorem MV {t kt el:TypeId}(h:Ft P t=some (kt,el)):P.underlying t=some (.map kt el):=by
 unfold Ft at h;split at h
 ·cases h;assumption
 ·cases h
theorem DL {d:TypeDesc}{kt:TypeId}{k:Value}(hd:P.underlying kt=some d) (hk:IsKey d k) (em:Bool):(Instr.checkKey em 10000 kt k).run P w= .ok () w:=run_checkKey hd hk em 9999
theorem y8 {d:TypeDesc}{kt:TypeId}{k:Value}{es:List MapEntry}{r:Option (Nat×Value)}(hd:P.underlying kt=some d) (h:Instr.findNow d k es 0=some r):(Instr.findKey kt k es).run P w= .ok r w:=by
 simp only [Instr.findKey,Sem.run_bind,F0 hd,Result.andThen_ok,h,Sem.run_pure]
theorem RX {base:Env}{Z Z':St}{t:TypeId}{x ix:Operand}{ok:Bool}(ho:o.op= .lookup t x ix ok) (hk:O6 O fr e o.op.operands.toList) (hR:Rel base O Z w)
  (h:Bn P fr Z t x ix ok=some (v,Z')):Hp P base O e o Z w Z' v:=by
 obtain ⟨⟨kt,el⟩,h1,k1⟩:=A4 h;obtain ⟨m,h2,k2⟩:=A4 (show ob (ev fr x) _=some (v,Z') from k1);obtain ⟨a,h3,k3⟩:=A4 k2;obtain ⟨k,h4,k4⟩:=A4 k3;obtain ⟨h5,k5⟩:=H2 k4;obtain ⟨cs,h6,k6⟩:=A4 k5;obtain ⟨r,h7,k7⟩:=A4 k6;obtain ⟨⟨u,b⟩,h8,k8⟩:=A4 k7;clear h k1 k2 k3 k4 k5 k6 k7;cases k8;obtain ⟨hf,hs,d,hd,hik⟩:=CK h5;rw [hd] at h5;have Iw:=MV h1;have hx:=hk x m (by simp [ho,Op.operands]) h2;have hix:=hk ix k (by simp [ho,Op.operands]) h4;have Oy:=hix.flat hf;have fj:∀ es:List MapEntry,Entries O cs es->∃ fr',Instr.findNow d k es 0=some fr'/\∃ u',H5 O u u'/\((fr'=none/\b=false/\(zeroValue el).run P w= .ok u' w)\/(b=true/\∃ j,fr'=some (j,u'))):=by
  intro es hE;obtain ⟨g1,g2⟩:=UD h5 hE h7 0;cases r with
  | none =>
    obtain ⟨z,h9,h10⟩:=A4 (show ob (y7 P el) _=some (u,b) from h8);cases h10;exact ⟨none,g1 rfl,u,(Cb h9 w).2.1,.inl ⟨rfl,rfl,(Cb (O:=O) h9 w).1⟩⟩
  | some v0 =>
    cases h8;obtain ⟨j,v',g3,g4⟩:=g2 _ rfl;exact ⟨_,g3,v',g4,.inr ⟨rfl,j,rfl⟩⟩
 have fin:∀ u',H5 O u u'->H5 O (bi ok (.tuple ⟨[u,.bool b]⟩) u) (if ok then .tuple #[u',.bool b] else u'):=by
  intro u' hur;cases ok with
  | true=>exact .tuple (.cons hur (.cons (.H9 rfl) .nil))
  | false=>exact hur
 rcases YU hx h3 with ⟨rfl,hxe⟩|⟨mb,q,rfl,hq,hxe⟩
 ·cases h6;obtain ⟨fr',f1,u',f2,f3⟩:=fj [] .nil;refine ⟨w,.value (if ok then .tuple #[u',.bool b] else u'),_,O,?_,rfl,hR,.refl _ _ _,fin u' f2⟩;rcases f3 with ⟨rfl,rfl,f4⟩|⟨rfl,j,rfl⟩
  ·simp only [execOp,ho,hxe,Oy,Instr.lookup,Sem.run_bind,F0 Iw,Result.andThen_ok,Sem.run_pure,DL hd hik,y8 hd f1,f4]
  ·simp only [execOp,ho,hxe,Oy,Instr.lookup,Sem.run_bind,F0 Iw,Result.andThen_ok,Sem.run_pure,DL hd hik,y8 hd f1]
 ·obtain ⟨B,h9,h10⟩:=A4 (show ob (Z.Oh mb) _=some cs from h6);cases h10;obtain ⟨es,clock,h11,h12⟩:=hR.map mb q B hq h9;obtain ⟨fr',f1,u',f2,f3⟩:=fj es.toList h12;refine ⟨w,.value (if ok then .tuple #[u',.bool b] else u'),_,O,?_,rfl,hR,.refl _ _ _,fin u' f2⟩;rcases f3 with ⟨rfl,rfl,f4⟩|⟨rfl,j,rfl⟩
  ·simp only [execOp,ho,hxe,Oy,Instr.lookup,Sem.run_bind,F0 Iw,Result.andThen_ok,Sem.run_pure,run_getObj_map h11,DL hd hik,y8 hd f1,f4]
  ·simp only [execOp,ho,hxe,Oy,Instr.lookup,Sem.run_bind,F0 Iw,Result.andThen_ok,Sem.run_pure,run_getObj_map h11,DL hd hik,y8 hd f1]
theorem Nb {Z Z':St}{b:Nat}{cs:List Value}(h:Z.sd b cs=some Z'):∃ B,Z.Oh b=some B/\B.own=true/\Z'=⟨Z.h.set b ⟨cs,true,true,B.ver+1,.map⟩,Z.n⟩:=by
 obtain ⟨B,h1,h2⟩:=A4 h;obtain ⟨h3,h4⟩:=H2 h2;cases h4;exact ⟨B,h1,h3,rfl⟩
theorem GX {base:Env}{Z Z':St}{t:TypeId}{m k x:Operand}(ho:o.op= .mapUpdate t m k x\/o.op= .insert t m k x) (hk:O6 O fr e o.op.operands.toList) (hR:Rel base O Z w)
  (h:U0 P fr Z t m k x=some (v,Z')):Hp P base O e o Z w Z' v:=by
 obtain ⟨⟨kt,el⟩,h1,k1⟩:=A4 h;obtain ⟨mv,h2,k2⟩:=A4 (show ob (ev fr m) _=some (v,Z') from k1);obtain ⟨a,h3,k3⟩:=A4 k2;obtain ⟨mb,h4,k4⟩:=A4 k3;subst h4;obtain ⟨kv,h5,k5⟩:=A4 k4;obtain ⟨h6,k6⟩:=H2 k5;obtain ⟨u,h7,k7⟩:=A4 k6;obtain ⟨B,h8,k8⟩:=A4 k7;obtain ⟨cs,h9,k9⟩:=A4 k8;obtain ⟨Z1,h10,k10⟩:=A4 k9;clear h k1 k2 k3 k4 k5 k6 k7 k8 k9;cases k10;obtain ⟨B',h11,h12,rfl⟩:=Nb h10;rw [h8] at h11;cases h11;obtain ⟨hf,hs,d,hd,hik⟩:=CK h6;rw [hd] at h6;have Iw:=MV h1;have hm:H5 O mv (e m):=hk m mv (by rcases ho with ho|ho <;> simp [ho,Op.operands]) h2;have hkv:H5 O kv (e k):=hk k kv (by rcases ho with ho|ho <;> simp [ho,Op.operands]) h5;have hu:H5 O u (e x):=hk x u (by rcases ho with ho|ho <;> simp [ho,Op.operands]) h7;have Oy:=hkv.flat hf;rcases YU hm h3 with ⟨h13,_⟩|⟨mb',q,h13,hq,hxe⟩
 ·cases h13
 ·cases h13;obtain ⟨es,clock,h14,h15⟩:=hR.map mb q B hq h8
  have Hi:∀ (es':Array MapEntry) (DB:Nat),Entries O cs es'.toList->Rel base O ⟨Z.h.set mb ⟨cs,true,true,B.ver+1,.map⟩,Z.n⟩ { w with heap:=w.heap.setIfInBounds q.c (.map es' DB) } /\
    R9 O Z w O ⟨Z.h.set mb ⟨cs,true,true,B.ver+1,.map⟩,Z.n⟩ { w with heap:=w.heap.setIfInBounds q.c (.map es' DB) }:=by
   intro es' DB hE;refine hR.set hq (Ms h8).1 h12 rfl rfl (fun c hc=>Array.getElem?_setIfInBounds_ne (fun he=>hc he.symm)) (by simp) ⟨rfl,rfl,rfl⟩ (.map rfl ⟨es',DB,?_,hE⟩);have:=hR.dom mb q hq;simp [this]
  have Dl:∃ es' DB,Entries O cs es'.toList/\(Instr.mapUpdate t (e m) (e k) (e x)).run P w= .ok () { w with heap:=w.heap.setIfInBounds q.c (.map es' DB) }:=by
   rcases UE h6 hu h15 h9 0 with ⟨g1,g2⟩|⟨j,v',en,g1,g2,g3,g4⟩
   ·refine ⟨es.push ⟨kv,e x,clock⟩,clock+1,by simpa using g2 clock,?_⟩;simp only [hxe,Oy,Instr.mapUpdate,Sem.run_bind,F0 Iw,Result.andThen_ok,run_getObj_map h14,DL hd hik,y8 hd g1,run_setObj_map _ h14]
   ·refine ⟨es.modify j fun en=>{ en with key:=kv,val:=e x },clock,by simpa using g4,?_⟩;have aU:((es[j]?).map (·.key)).getD kv=kv:=by
     rw [<- Array.getElem?_toList,g2];exact g3
    have fk:(Instr.keyThatStays kv kv).run P w= .ok kv w:=by
     unfold Instr.keyThatStays;have:Instr.sameBits 10000 kv kv=true:=by
      cases d with
      | string=>cases kv <;> simp_all [IsKey];simp [Instr.sameBits,(bytes_beq _ _).2 rfl]
      | int=>cases kv <;> simp_all [IsKey];simp [Instr.sameBits]
      | bool=>cases kv <;> simp_all [IsKey];simp [Instr.sameBits]
      | _=>cases kv <;> simp [IsKey] at hik
     rw [this];rfl
    simp only [Nat.zero_add] at g1;simp only [hxe,Oy,Instr.mapUpdate,Sem.run_bind,F0 Iw,Result.andThen_ok,run_getObj_map h14,DL hd hik,y8 hd g1,aU,fk,run_setObj_map _ h14]
  obtain ⟨es',DB,hE,Dl⟩:=Dl;obtain ⟨r1,r2⟩:=Hi es' DB hE;refine ⟨_,.skip,undef,O,?_,rfl,r1,r2,.tuple .nil⟩;rcases ho with ho|ho
  ·simp only [execOp,ho,Sem.run_bind,Dl,Result.andThen_ok];rfl
  ·simp only [execOp,ho,Sem.run_bind,Dl,Result.andThen_ok];rfl
theorem Ov {base:Env}{Z Z':St}{t:TypeId}{r:Option Operand}{N:Nat}(ho:o.op= .makeMap t r) (hR:Rel base O Z w) (hF:Ax O Z.n N) (hN:Z'.n<=N)
  (h:DZ fr Z r=some (v,Z')):Hp P base O e o Z w Z' v:=by
 obtain ⟨h1,h2⟩:=H2 h;cases h2;cases r with
 | some=>cases h1
 | none =>
   have hf:O Z.n=none:=hF Z.n (Nat.le_refl _) (Nat.lt_of_lt_of_le (Nat.lt_succ_self _) hN)
   obtain ⟨r1,r2⟩:=hR.Dz (w':={ w with heap:=w.heap.push (.map #[] 0) }) (cs:=[]) (k:= .map) (c:=w.heap.size) hf (Nat.le_refl _) (by simp) (by simp) (fun c hc=>by
    show (w.heap.push _)[c]? =_;rw [Array.getElem?_push,if_neg om]) ⟨rfl,rfl,rfl⟩ (.map rfl ⟨#[],0,by simp,.nil⟩)
   refine ⟨_,.value (.map (some w.heap.size)),_,_,?_,rfl,r1,r2,.map (q:=⟨w.heap.size,0,0⟩) (Place.P1 _ _ _)⟩;simp only [execOp,ho,Option.map_none,Instr.makeMap,Sem.run_bind,Sem.run_pure,run_newObj,Result.andThen_ok]
end
end Go.Ab
namespace Go.Ab
open Go
structure Adv (Z Z':St):Prop where
 n:Z.n<=Z'.n
 ver:∀ b,b<Z.n->Z'.h.get b=Z.h.get b\/Z.ver b<Z'.ver b
 fresh:(∀ b,Z.n<=b->Z.h.get b=none)->∀ b,Z'.n<=b->Z'.h.get b=none
theorem Adv.refl (Z:St):Adv Z Z:=⟨Nat.le_refl _,fun _ _=> .inl rfl,fun h=>h⟩
theorem eh {Z Z':St}{b:Nat}(h:Z'.h.get b=Z.h.get b):Z'.ver b=Z.ver b:=by unfold St.ver;rw [h]
theorem Adv.le {Z Z':St}(h:Adv Z Z'){b:Nat}(hb:b<Z.n):Z.ver b<=Z'.ver b:=by
 rcases h.ver b hb with h1|h1
 ·rw [eh h1];exact Nat.le_refl _
 ·omega
theorem Adv.trans {Z Z' Z'':St}(h:Adv Z Z') (k:Adv Z' Z''):Adv Z Z'':=by
 refine ⟨Nat.le_trans h.n k.n,fun b hb=>?_,fun hf=>k.fresh (h.fresh hf)⟩;have hb':=Nat.lt_of_lt_of_le hb h.n;rcases k.ver b hb' with h2|h2
 ·rcases h.ver b hb with h1|h1
  ·exact .inl (h2.trans h1)
  ·exact .inr (by rw [eh h2];exact h1)
 ·exact .inr (Nat.lt_of_le_of_lt (h.le hb) h2)
theorem Adv.new (Z:St) (cs:List Value) (k:Kind:= .row none):Adv Z (Z.Dz cs k) :=
 ⟨Nat.le_succ _,fun b hb=> .inl (Tr.I2 _ _ om),fun hf b hb=>by
  change Z.n+1<=b at hb;show (Z.h.set Z.n _).get b=none;rw [Tr.I2 _ _ om];exact hf b om⟩
theorem Adv.set {Z:St}{b:Nat}{B B':Blk}(hB:Z.blk b=some B) (hv:B'.ver=B.ver+1):Adv Z ⟨Z.h.set b B',Z.n⟩:=by
 refine ⟨Nat.le_refl _,fun b' hb=>?_,fun hf b' hb=>?_⟩
 ·by_cases hbb:b'=b
  ·subst hbb;right;have h1:=(W9 hB).1;have e1:Z.ver b'=B.ver:=by unfold St.ver;rw [h1]
   have e2:(⟨Z.h.set b' B',Z.n⟩:St).ver b'=B'.ver:=by
    show (match (Z.h.set b' B').get b' with|some B=>B.ver|none=>0)=_;rw [Tr.get_set_same]
   rw [e1,e2,hv];omega
  ·exact .inl (Tr.I2 _ _ hbb)
 ·change Z.n<=b' at hb;show (Z.h.set b B').get b'=none;have hbb:b'≠b:=by
   intro he;subst he;have:=hf b' hb;rw [(W9 hB).1] at this;cases this
  rw [Tr.I2 _ _ hbb];exact hf b' hb
theorem Adv.write {Z Z':St}{b off:Nat}{vs:List Value}(h:Z.write b off vs=some Z'):Adv Z Z':=by
 obtain ⟨B,cs,h1,h2,h3,h4,rfl⟩:=Gm h;exact .set (W2 h1).1 rfl
theorem Adv.kill {Z Z':St}{b:Nat}(h:Z.kill b=some Z'):Adv Z Z':=by
 obtain ⟨B,h1,h2,rfl⟩:=EW h;exact .set (W2 h1).1 rfl
section
variable {P:Program} {base:Env} {G:Nat}
def Am (O:Place) (G:Nat):Prop:=∀ g,g<G->∃ m,O g=some ⟨g,0,m⟩/\(g=1->G=8->m=20)
theorem Am.mono {O O':Place}{G:Nat}(hm:O.le O') (h:Am O G):Am O' G:=fun g hg=>let ⟨m,h1,h2⟩:=h g hg;⟨m,hm _ _ h1,h2⟩
def ended (pan:Bool) (v':Value):Ending:=match pan with
 | true=> .panicked [{ v:=v',recovered:=false }]
 | false=> .returned v'
def WA (v':Value):Exit:= .panic [{ v:=v',recovered:=false }]
def FW (r:Option Nat):Fence:={ Fence.wide with round:=r }
def Az (P:Program) (base:Env) (O:Place) (g:Nat) (vs':List Value) (Z:St) (w:World) (r:CR):Prop :=
 ∃ fn,P.funcs[g]? =some fn/\(fn.name== "runtime.NumGoroutine")=false /\
  ((fn.body.isSome=true/\Calls P g ⟨vs'⟩ w fun e w'=>∃ v' O',e=ended r.pan v'/\Rel base O' r.Z w'/\R9 O Z w O' r.Z w'/\H5 O' r.v v') \/
   (∃ v',(callFunc g ⟨vs'⟩).run P w= .ok (.value v') w/\r.Z=Z/\r.pan=false/\H5 O r.v v'))
def YD (P:Program) (base:Env) (O:Place) (l:Nat) (vs':List Value) (Z:St) (w:World) (r:CR):Prop :=
 ∃ f tmps assign body,(Instr.yield l ⟨vs'⟩).run P w= .ok (.round l f tmps assign body) w /\
  RoundIn Fence.wide 0 P l f tmps assign body w fun e w'=>∃ v' O',e=ended r.pan v'/\Rel base O' r.Z w'/\R9 O Z w O' r.Z w'/\H5 O' r.v v'
def xx (P:Program) (base:Env) (O:Place) (t:Tgt) (vs':List Value) (Z:St) (w:World) (r:CR):Prop:=match t with
 | .fn g=>Az P base O g vs' Z w r
 | .yld b=>∀ q,O b=some q->YD P base O q.c vs' Z w r
def AJ (P:Program) (base:Env) (G:Nat) (call:R3):Prop :=
 ∀ t vs Z r,call t vs Z=some r->Adv Z r.Z/\∀ O w vs' N,Rel base O Z w->Ax O Z.n N->r.Z.n<=N->Am O G->D8 O vs vs'->xx P base O t vs' Z w r
def ei (P:Program) (fr:Fr) (o:Oper) (v:Value):Prop:=∀ O e w,O6 O fr e o.op.operands.toList->AP P O e o w v
def NewFact (P:Program) (fr:Fr) (o:Oper) (cs:List Value) (vf:Nat->Value) (t:Option TypeId:=none):Prop:=∀ O e w,O6 O fr e o.op.operands.toList->GV P O e o w cs vf t
def Na (P:Program) (fr:Fr) (Z:St) (o:Oper) (v:Value) (r:AN):Prop :=
 (∃ cs,Z.read r.b r.off r.n=some cs)/\∀ O e w,O6 O fr e o.op.operands.toList->(∃ q,O r.b=some q)/\((∀ q cs,O r.b=some q->Z.read r.b r.off r.n=some cs->Seg O w q r.off cs)->AP P O e o w v)
def RU (P:Program) (base:Env) (G:Nat) (fr:Fr) (Z:St) (o:Oper) (v:Value) (Z':St):Prop :=
 Adv Z Z'/\BO o.op=true/\∀ O (a:Act) w N,O6 O fr a.eval o.op.operands.toList->Rel base O Z w->Ax O Z.n N->Z'.n<=N->Am O G ->
  ∀ (rd:Option Nat) (next:Act->World->Prop) (Q:Exit->Act->World->Prop),(∀ v' w' O',Rel base O' Z' w'->R9 O Z w O' Z' w'->H5 O' v v'->next (a.put o.dst v') w')->o.wpIn (FW rd) 0 P a w next Q
def RV (P:Program) (base:Env) (G:Nat) (fr:Fr) (Z:St) (o:Oper) (v:Value) (Z':St):Prop :=
 Adv Z Z'/\∀ O (a:Act) w N,O6 O fr a.eval o.op.operands.toList->Rel base O Z w->Ax O Z.n N->Z'.n<=N->Am O G ->
  ∀ (rd:Option Nat) (next:Act->World->Prop) (Q:Exit->Act->World->Prop),(∀ v' w' O',Rel base O' Z' w'->R9 O Z w O' Z' w'->H5 O' v v'->Q (WA v') a w')->o.wpIn (FW rd) 0 P a w next Q
theorem AW {rd:Option Nat}{a:Act}{w:World}{o:Oper}{next:Act->World->Prop}{Q:Exit->Act->World->Prop}(hd:∀ c,o.op≠ .defer c)
  (h:o.uponIn (FW rd) 0 P a next Q ((execOp a.eval o).run P w)):o.wpIn (FW rd) 0 P a w next Q:=by
 refine ⟨fun _ _=>trivial,?_⟩;rw [Oper.semAt_eq _ _ _ hd];exact h
theorem DY {fr:Fr}{Z Z':St}{o:Oper}{v:Value}(hd:∀ c,o.op≠ .defer c) (h1:Adv Z Z') (h2:BO o.op=true)
  (h3:∀ O e w N,O6 O fr e o.op.operands.toList->Rel base O Z w->Ax O Z.n N->Z'.n<=N->Hp P base O e o Z w Z' v):RU P base G fr Z o v Z':=by
 refine ⟨h1,h2,fun O a w N hk hR hF hN hG rd next Q hn=>AW hd ?_⟩;obtain ⟨w',nx,v',O',k1,k2,k3,k4,k5⟩:=h3 O a.eval w N hk hR hF hN;rw [k1];cases nx with
 | value u=>rw [Oper.uponIn_value];cases k2;exact hn _ _ _ k3 k4 k5
 | skip=>rw [Oper.uponIn_skip];cases k2;exact hn _ _ _ k3 k4 k5
 | _=>cases k2
theorem Ej {Z Z':St}{t:TypeId}{a v:Value}(h:Ih P Z t a v=some Z'):Adv Z Z':=by
 obtain ⟨⟨b,off⟩,h4,k4⟩:=A4 h;obtain ⟨n,h5,k5⟩:=A4 (show ob (size? P t) _=some Z' from k4);obtain ⟨ht,k6⟩:=HP k5;obtain ⟨h6,h7⟩:=H2 k6;exact .write h7
theorem WB {Z Z':St}{t:TypeId}{s x v:Value}(h:BN P Z t s x=some (v,Z')):Adv Z Z':=by
 obtain ⟨el,h6,k6⟩:=A4 h;obtain ⟨i,h7,k7⟩:=A4 k6;clear h k6;split at k7
 ·rename_i bs len cap;obtain ⟨⟨n,new⟩,h8,k8⟩:=A4 k7;obtain ⟨h9,k9⟩:=H2 (show bb (Nat.ble 1 i.size) _=some (v,Z') from k8);cases hle:Nat.ble (len+n) cap with
  | true =>
    rw [hle] at k9;change BF Z i.size bs len cap n new=some (v,Z') at k9;unfold BF at k9;split at k9
    ·obtain ⟨Z2,h10,k10⟩:=A4 k9;cases k10;exact .write h10
    ·obtain ⟨h10,k10⟩:=H2 k9;cases k10;exact .refl _
  | false =>
    rw [hle] at k9;obtain ⟨h10,k10⟩:=H2 (show bb _ _=some (v,Z') from k9);obtain ⟨z,h11,k11⟩:=A4 k10;obtain ⟨h12,k12⟩:=H2 k11;unfold AR at k12;split at k12
    ·obtain ⟨h13,k13⟩:=H2 k12;cases k13;exact .new _ _ _
    ·obtain ⟨old,h13,k13⟩:=A4 k12;cases k13;exact .new _ _ _
    ·obtain ⟨h13,k13⟩:=H2 k12;obtain ⟨old,h14,k14⟩:=A4 k13;obtain ⟨Z1,h15,k15⟩:=A4 k14;cases k15;exact (Adv.kill h15).trans (.new _ _ _)
 ·cases k7
theorem ej {Z Z':St}{b:Nat}{cs:List Value}(h:Z.sd b cs=some Z'):Adv Z Z':=by
 obtain ⟨B,h1,h2,rfl⟩:=Nb h;exact .set (Ms h1).1 rfl
theorem IA {fr:Fr}{Z Z':St}{t:TypeId}{m k x:Operand}{v:Value}(h:U0 P fr Z t m k x=some (v,Z')):Adv Z Z':=by
 obtain ⟨⟨kt,el⟩,h1,k1⟩:=A4 h;obtain ⟨mv,h2,k2⟩:=A4 (show ob (ev fr m) _=some (v,Z') from k1);obtain ⟨a,h3,k3⟩:=A4 k2;obtain ⟨mb,h4,k4⟩:=A4 k3;obtain ⟨kv,h5,k5⟩:=A4 k4;obtain ⟨h6,k6⟩:=H2 k5;obtain ⟨u,h7,k7⟩:=A4 k6;obtain ⟨B,h8,k8⟩:=A4 k7;obtain ⟨cs,h9,k9⟩:=A4 k8;obtain ⟨Z1,h10,k10⟩:=A4 k9;cases k10;exact ej h10
theorem WC {fr:Fr}{Z Z':St}{t:TypeId}{x ix:Operand}{ok:Bool}{v:Value}(h:Bn P fr Z t x ix ok=some (v,Z')):Adv Z Z':=by
 obtain ⟨⟨kt,el⟩,h1,k1⟩:=A4 h;obtain ⟨m,h2,k2⟩:=A4 (show ob (ev fr x) _=some (v,Z') from k1);obtain ⟨a,h3,k3⟩:=A4 k2;obtain ⟨k,h4,k4⟩:=A4 k3;obtain ⟨h5,k5⟩:=H2 k4;obtain ⟨cs,h6,k6⟩:=A4 k5;obtain ⟨r,h7,k7⟩:=A4 k6;obtain ⟨⟨u,b⟩,h8,k8⟩:=A4 k7;cases k8;exact .refl _
theorem TT {fr:Fr}{Z Z':St}{r:Option Operand}{v:Value}(h:DZ fr Z r=some (v,Z')):Adv Z Z':=by
 obtain ⟨h1,h2⟩:=H2 h;cases h2;exact .new _ _ _
def se (O:Place) (u':Value) (t:Tgt) (AI N2:List Value):Prop:=match t with
 | .fn g=>u'= .func (.func g) ⟨AI⟩ ⟨N2⟩
 | .yld b=>∃ q,O b=some q/\u'= .func (.yield q.c) ⟨[]⟩ ⟨[]⟩/\AI=[]/\N2=[]
theorem TU {O:Place}{u u':Value}{f:Fun}(h:H5 O u u') (hf:LX u=some f):∃ AI N2,se O u' f.g AI N2/\D8 O f.first AI/\D8 O f.captured N2:=by
 unfold LX at hf;split at hf
 ·cases hf;cases h with
  | func hy h1 h2=>exact ⟨_,_,rfl,h1,h2⟩
  | H9 hs=>simp [H9] at hs
 ·cases hf;cases h with
  | func hy h1 h2=>cases hy
  | yld hq=>exact ⟨[],[],⟨_,hq,rfl,rfl,rfl⟩,.nil,.nil⟩
  | H9 hs=>simp [H9] at hs
 ·cases hf
theorem Pp {call:R3}(hC:AJ P base G call){fr:Fr}{Z:St}{o:Oper}{c:Call}{f:Operand}{r:CR}(ho:o.op= .call c) (hc:c.callee= .value f)
  (h:FL call fr Z c f=some r):Adv Z r.Z/\∀ O (a:Act) w N,O6 O fr a.eval o.op.operands.toList->Rel base O Z w->Ax O Z.n N->r.Z.n<=N->Am O G ->
    ∀ (rd:Option Nat) (next:Act->World->Prop) (Q:Exit->Act->World->Prop),
     (∀ v' w' O',Rel base O' r.Z w'->R9 O Z w O' r.Z w'->H5 O' r.v v'->match r.pan with|true=>Q (WA v') a w'|false=>next (a.put o.dst v') w')->o.wpIn (FW rd) 0 P a w next Q:=by
 obtain ⟨vs,h1,k1⟩:=A4 h;obtain ⟨u,h2,k2⟩:=A4 k1;obtain ⟨fn,h3,k3⟩:=A4 k2;change call fn.g (fn.first++vs++fn.captured) Z=some r at k3;clear h k1 k2;obtain ⟨ek,xy⟩:=hC _ _ _ _ k3;refine ⟨ek,fun O a w N hk hR hF hN hG rd next Q hn=>AW (by intro c' he;rw [ho] at he;cases he) ?_⟩;have hr:=(Cw ho hk).evs h1;have hu:=hk f u (by simp [ho,Op.operands,Call.operands,hc]) h2;obtain ⟨AI,N2,hf,r1,r2⟩:=TU hu h3;have hT:=xy O w (AI++c.args.toList.map a.eval++N2) N hR hF hN hG (D8.append r2 (D8.append hr r1));have Ce:(⟨AI⟩:Array Value)++c.args.map a.eval++⟨N2⟩=⟨AI++c.args.toList.map a.eval++N2⟩:=by
  rw [<- Array.toList_inj];simp
 have HD:∀ (en:Ending) w',(∃ v' O',en=ended r.pan v'/\Rel base O' r.Z w'/\R9 O Z w O' r.Z w'/\H5 O' r.v v')->(match en,w' with
   | .returned v,w''=>next (a.put o.dst v) w''
   | .panicked chain,w''=>Q (.panic chain) a w''
   | .outgrown,_=>LetsOut Q:Prop):=by
  rintro en w' ⟨v',O',rfl,q1,q2,q3⟩;have:=hn v' w' O' q1 q2 q3;cases hp:r.pan with
  | true=>rw [hp] at this;exact this
  | false=>rw [hp] at this;exact this
 cases hg:fn.g with
 | fn g =>
   rw [hg] at hT hf;obtain ⟨fd,e1,e2,e3⟩:=hT;have hf:a.eval f= .func (.func g) ⟨AI⟩ ⟨N2⟩:=hf;have FG:execOp a.eval o=callFunc g ⟨AI++c.args.toList.map a.eval++N2⟩:=by
    simp only [execOp,ho,resolve,hc,hf,Deferred.ofValue];rw [<- Ce];rfl
   rw [FG];rcases e3 with ⟨b1,b2⟩|⟨v',b1,b2,b3,b4⟩
   ·have Dl:(callFunc g ⟨AI++c.args.toList.map a.eval++N2⟩).run P w= .ok (.enter g ⟨AI++c.args.toList.map a.eval++N2⟩) w:=by
     have hn0:fd.body.isNone=false:=by cases hb:fd.body with|none=>rw [hb] at b1;cases b1|some c=>rfl
     simp only [callFunc,Sem.run_bind,run_program,Result.andThen_ok,e1,e2,hn0,Bool.false_eq_true,if_false,Sem.run_pure]
    rw [Dl,Oper.uponIn_enter];refine ⟨fun h=>(nomatch h),?_⟩;exact (callsIn_wide (n:=0)).2 (b2.mono HD)
   ·rw [b1,Oper.uponIn_value];have hp:=hn v' w O (by rw [b2];exact hR) (by rw [b2];exact .refl _ _ _) b4;rw [b3] at hp;exact hp
 | yld b =>
   rw [hg] at hT hf;obtain ⟨q,hq,hf,hf1,hf2⟩:=hf;subst hf1;subst hf2;obtain ⟨f0,tmps,assign,body,e1,e2⟩:=hT q hq;have FG:execOp a.eval o=Instr.yield q.c ⟨[]++c.args.toList.map a.eval++[]⟩:=by
    simp only [execOp,ho,resolve,hc,hf,Deferred.ofValue];rw [<- Ce];rfl
   rw [FG,e1,Oper.uponIn_round];refine ⟨fun h=>(nomatch h),?_⟩;exact e2.mono HD
theorem aA {call:R3}(hC:AJ P base G call){fr:Fr}{Z:St}{o:Oper}{c:Call}{f:Operand}{v:Value}{Z':St}(ho:o.op= .call c) (hc:c.callee= .value f)
  (h:FL call fr Z c f=some ⟨false,v,Z'⟩):RU P base G fr Z o v Z' :=
 let ⟨h1,h2⟩:=Pp hC ho hc h
 ⟨h1,by simp [ho,BO,hc],fun O a w N hk hR hF hN hG rd next Q hn=>h2 O a w N hk hR hF hN hG rd next Q hn⟩
theorem eo {call:R3}(hC:AJ P base G call){fr:Fr}{Z:St}{o:Oper}{c:Call}{f:Operand}{v:Value}{Z':St}(ho:o.op= .call c) (hc:c.callee= .value f)
  (h:FL call fr Z c f=some ⟨true,v,Z'⟩):RV P base G fr Z o v Z' :=
 let ⟨h1,h2⟩:=Pp hC ho hc h
 ⟨h1,fun O a w N hk hR hF hN hG rd next Q hn=>h2 O a w N hk hR hF hN hG rd next Q hn⟩
theorem WD {fr:Fr}{Z:St}{o:Oper}{x:Operand}{s:Stepped}(ho:o.op= .panic x) (h:Nc fr Z x=some s):s.d= .pan/\s.Z=Z/\RV P base G fr Z o s.v Z:=by
 obtain ⟨u,h1,h2⟩:=A4 h;split at h2
 ·rename_i t v;cases h2;refine ⟨rfl,rfl,.refl _,fun O a w N hk hR hF hN hG rd next Q hn=>AW (by intro c' he;rw [ho] at he;cases he) ?_⟩;have hx:=hk x _ (by simp [ho,Op.operands]) h1;cases hx':a.eval x with
  | iface t' v' =>
    rw [hx'] at hx;have FG:(execOp a.eval o).run P w= .halt (.panic (.iface t' v')) w:=by
     simp only [execOp,ho,hx',Instr.panic];rfl
    rw [FG,Oper.uponIn_panic];exact hn _ _ _ hR (.refl _ _ _) hx
  | _=>rw [hx'] at hx;cases hx <;> (rename_i hs;simp [H9] at hs)
 ·cases h2
inductive Class (P:Program) (base:Env) (G:Nat) (fr:Fr) (Z:St) (o:Oper):Stepped->Prop
 | pure {v:Value} (h:ei P fr o v):Class P base G fr Z o ⟨v,Z,.none⟩
 | new {cs:List Value} {vf:Nat->Value} {t:Option TypeId} (h:NewFact P fr o cs vf t):Class P base G fr Z o ⟨vf Z.n,Z.new cs t,.none⟩
 | read {v:Value} {r:AN} (h:Na P fr Z o v r):Class P base G fr Z o ⟨v,Z,.read r⟩
 | eff {v:Value} {Z':St} (h:RU P base G fr Z o v Z'):Class P base G fr Z o ⟨v,Z',.eff⟩
 | pan {v:Value} {Z':St} (h:RV P base G fr Z o v Z'):Class P base G fr Z o ⟨v,Z',.pan⟩
theorem P6 {Z:St}{x:Option Value}{s:Stepped}(h:I1 Z x=some s):∃ v,x=some v/\s=⟨v,Z,.none⟩:=by
 obtain ⟨v,h1,h2⟩:=A4 h;cases h2;exact ⟨v,h1,rfl⟩
theorem HE {Z:St}{x:Option (List Value×(Nat->Value))}{t:Option TypeId}{s:Stepped}(h:asNew Z x t=some s):∃ cs vf,x=some (cs,vf)/\s=⟨vf Z.n,Z.new cs t,.none⟩:=by
 obtain ⟨⟨cs,vf⟩,h1,h2⟩:=A4 h;cases h2;exact ⟨cs,vf,h1,rfl⟩
theorem Pq {Z:St}{x:Option (Value×AN)}{s:Stepped}(h:Cm Z x=some s):∃ v b,x=some (v,b)/\s=⟨v,Z,.read b⟩:=by
 obtain ⟨⟨v,b⟩,h1,h2⟩:=A4 h;cases h2;exact ⟨v,b,h1,rfl⟩
theorem Da {x:Option (Value×St)}{s:Stepped}(h:Ct x=some s):∃ v Z',x=some (v,Z')/\s=⟨v,Z',.eff⟩:=by
 obtain ⟨⟨v,Z'⟩,h1,h2⟩:=A4 h;cases h2;exact ⟨v,Z',h1,rfl⟩
theorem aB {fr:Fr}{Z:St}{o:Oper}{t:TypeId}{x:Operand}{v:Value}{r:AN}(ho:o.op= .load t x) (h:Fo P fr Z t x=some (v,r)):Na P fr Z o v r:=by
 have hc:=h;obtain ⟨u,h1,k1⟩:=A4 h;obtain ⟨⟨b',off⟩,h2,k2⟩:=A4 k1;obtain ⟨m,hm,k2⟩:=A4 (show ob (span? P t) _=some (v,r) from k2);obtain ⟨v0,h3,k3⟩:=A4 (show ob (YE P Z t b' off) _=some (v,r) from k2);cases k3;refine ⟨?_,fun O e w hk=>⟨?_,fun Fc=>WE ho hk hc Fc⟩⟩
 ·obtain ⟨g,h4,h5⟩:=A4 h3;obtain ⟨g',hg',hm⟩:=A4 hm;rw [h4] at hg';cases hg';cases g with
  | true =>
    obtain ⟨n,h6,h7⟩:=A4 (show ob (size? P t) _=some v from h5);obtain ⟨cs,h8,h9⟩:=A4 h7;rw [show size? P t=some m from hm] at h6;cases h6;exact ⟨cs,h8⟩
  | false =>
    cases hm;obtain ⟨cs,h8,h9⟩:=A4 (show ob (Z.read b' off 1) _=some v from h5);exact ⟨cs,h8⟩
 ·obtain ⟨q,hq,_⟩:=Im (hk x u (by simp [ho,Op.operands]) h1) h2;exact ⟨q,hq⟩
theorem TV {fr:Fr}{Z:St}{o:Oper}{s d:TypeId}{x:Operand}{v:Value}{r:AN}(ho:o.op= .convert s d x) (h:Bl P fr Z s d x=some (v,r)):Na P fr Z o v r:=by
 have hc:=h;obtain ⟨u,h1,k1⟩:=A4 h;obtain ⟨⟨b',off,n⟩,h2,k2⟩:=A4 k1;obtain ⟨el,h3,k3⟩:=A4 (show ob (elem? P s) _=some (v,r) from k2);obtain ⟨h4,k4⟩:=H2 k3;obtain ⟨h5,k5⟩:=H2 k4;obtain ⟨l,h6,k6⟩:=A4 k5;obtain ⟨r',h7,k7⟩:=A4 k6;cases k7;refine ⟨?_,fun O e w hk=>⟨?_,fun Fc=>RW ho hk hc Fc⟩⟩
 ·exact ⟨l,h6⟩
 ·obtain ⟨q,a,k',hq,_,_⟩:=Fp (hk x u (by simp [ho,Op.operands]) h1) h2;exact ⟨q,hq⟩
theorem GK {call:R3}{fr:Fr}{Z:St}{o:Oper}{s:Stepped}(h:step P call fr Z o=some s):∀ c,o.op≠ .defer c:=by
 intro c ho;unfold step at h;rw [ho] at h;cases h
theorem GL {call:R3}(hC:AJ P base G call){fr:Fr}{Z:St}{o:Oper}{s:Stepped}
  (h:step P call fr Z o=some s):Class P base G fr Z o s:=by
 have hd:=GK h;unfold step at h;cases ho:o.op with
 | move x=>rw [ho] at h;obtain ⟨v,h1,rfl⟩:=P6 h;exact .pure fun O e w hk=>NS (.inl ho) hk h1
 | assign x=>rw [ho] at h;obtain ⟨v,h1,rfl⟩:=P6 h;exact .pure fun O e w hk=>NS (.inr ho) hk h1
 | pick c a b=>rw [ho] at h;obtain ⟨v,h1,rfl⟩:=P6 h;exact .pure fun O e w hk=>Vp ho hk h1
 | alloc t=>rw [ho] at h;obtain ⟨cs,vf,h1,rfl⟩:=HE h;exact .new fun O e w hk=>Sd ho h1
 | box t x=>rw [ho] at h;obtain ⟨cs,vf,h1,rfl⟩:=HE h;exact .new fun O e w hk=>ZG ho hk h1
 | build t parts=>rw [ho] at h;obtain ⟨v,h1,rfl⟩:=P6 h;exact .pure fun O e w hk=>Sb ho hk h1
 | buildSlice t len parts=>rw [ho] at h;obtain ⟨cs,vf,h1,rfl⟩:=HE h;exact .new fun O e w hk=>KT ho hk h1
 | load t x=>rw [ho] at h;obtain ⟨v,b,h1,rfl⟩:=Pq h;exact .read (aB ho h1)
 | store t x y =>
   rw [ho] at h;obtain ⟨v,Z',h1,rfl⟩:=Da h;refine .eff (DY hd ?_ (by rw [ho];rfl) fun O e w N hk hR hF hN=>TW ho hk hR h1);obtain ⟨a,g1,k1⟩:=A4 h1;obtain ⟨u,g2,k2⟩:=A4 k1;obtain ⟨Z1,g3,k3⟩:=A4 k2;cases k3;exact Ej g3
 | lookup t x ix ok =>
   rw [ho] at h;obtain ⟨v,Z',h1,rfl⟩:=Da h;exact .eff (DY hd (WC h1) (by rw [ho];rfl) fun O e w N hk hR hF hN=>RX ho hk hR h1)
 | mapUpdate t m k x =>
   rw [ho] at h;obtain ⟨v,Z',h1,rfl⟩:=Da h;exact .eff (DY hd (IA h1) (by rw [ho];rfl) fun O e w N hk hR hF hN=>GX (.inl ho) hk hR h1)
 | insert t m k x =>
   rw [ho] at h;obtain ⟨v,Z',h1,rfl⟩:=Da h;exact .eff (DY hd (IA h1) (by rw [ho];rfl) fun O e w N hk hR hF hN=>GX (.inr ho) hk hR h1)
 | makeMap t r =>
   rw [ho] at h;obtain ⟨v,Z',h1,rfl⟩:=Da h;exact .eff (DY hd (TT h1) (by rw [ho];rfl) fun O e w N hk hR hF hN=>Ov ho hR hF hN h1)
 | panic x =>
   rw [ho] at h;obtain ⟨h1,h2,h3⟩:=WD (P:=P) (base:=base) (G:=G) ho h;obtain ⟨v,Z',d⟩:=s;cases h1;cases h2;exact .pan h3
 | nilCheck x=>rw [ho] at h;obtain ⟨v,h1,rfl⟩:=P6 h;exact .pure fun O e w hk=>NT ho hk h1
 | binOp b t x y yt=>rw [ho] at h;obtain ⟨v,h1,rfl⟩:=P6 h;exact .pure fun O e w hk=>Zn ho hk h1
 | unOp u t x=>rw [ho] at h;obtain ⟨v,h1,rfl⟩:=P6 h;exact .pure fun O e w hk=>LV (by rw [ho];rfl) (by simp [ho]) hk h1
 | convert s0 d x =>
   rw [ho] at h;change orS (asNew Z (EP P fr s0 d x)) (orS (Cm Z (Bl P fr Z s0 d x)) (I1 Z (Bs P fr o x)))=some s at h;cases hn:asNew Z (EP P fr s0 d x) with
   | some s1 =>
     rw [hn] at h;cases h;obtain ⟨cs,vf,h1,rfl⟩:=HE hn;exact .new fun O e w hk=>Se ho hk h1
   | none =>
     rw [hn] at h;change orS (Cm Z (Bl P fr Z s0 d x)) (I1 Z (Bs P fr o x))=some s at h;cases hr:Cm Z (Bl P fr Z s0 d x) with
     | some s1 =>
       rw [hr] at h;cases h;obtain ⟨v,b,h1,rfl⟩:=Pq hr;exact .read (TV ho h1)
     | none =>
       rw [hr] at h;change I1 Z (Bs P fr o x)=some s at h;obtain ⟨v,h1,rfl⟩:=P6 h;exact .pure fun O e w hk=>LV (by rw [ho];rfl) (by simp [ho]) hk h1
 | makeInterface t x=>rw [ho] at h;obtain ⟨v,h1,rfl⟩:=P6 h;exact .pure fun O e w hk=>TF ho hk h1
 | makeFunc fn fs cs=>rw [ho] at h;obtain ⟨v,h1,rfl⟩:=P6 h;exact .pure fun O e w hk=>Vr ho hk h1
 | makeSlice t l c=>rw [ho] at h;obtain ⟨cs,vf,h1,rfl⟩:=HE h;exact .new fun O e w hk=>VO ho hk h1
 | slice t x lo hi mx=>rw [ho] at h;obtain ⟨v,h1,rfl⟩:=P6 h;exact .pure fun O e w hk=>Sx ho hk h1
 | fieldAddr s x f=>rw [ho] at h;obtain ⟨v,h1,rfl⟩:=P6 h;exact .pure fun O e w hk=>Ly ho hk h1
 | field s x f=>rw [ho] at h;obtain ⟨v,h1,rfl⟩:=P6 h;exact .pure fun O e w hk=>TG ho hk h1
 | indexAddr t x ix=>rw [ho] at h;obtain ⟨v,h1,rfl⟩:=P6 h;exact .pure fun O e w hk=>Lz ho hk h1
 | index t x ix=>rw [ho] at h;obtain ⟨v,h1,rfl⟩:=P6 h;exact .pure fun O e w hk=>TI ho hk h1
 | extract t ix=>rw [ho] at h;obtain ⟨v,h1,rfl⟩:=P6 h;exact .pure fun O e w hk=>Ot ho hk h1
 | call c =>
   rw [ho] at h;change TR P call fr Z c=some s at h;unfold TR at h;cases hc:c.callee with
   | value f =>
     rw [hc] at h;obtain ⟨⟨p,v,Z'⟩,h1,h2⟩:=A4 (show ob (FL call fr Z c f) _=some s from h);cases h2;cases p with
     | true=>exact .pan (eo hC ho hc h1)
     | false=>exact .eff (aA hC ho hc h1)
   | invoke r m=>rw [hc] at h;cases h
   | builtin b =>
     rw [hc] at h;change qM b P fr Z c=some s at h;cases b with
     | len=>obtain ⟨v,h1,rfl⟩:=P6 h;exact .pure fun O e w hk=>Zb ho hc hk h1
     | max=>obtain ⟨v,h1,rfl⟩:=P6 h;exact .pure fun O e w hk=>Sy true ho hc hk h1
     | min=>obtain ⟨v,h1,rfl⟩:=P6 h;exact .pure fun O e w hk=>Sy false ho hc hk h1
     | append =>
       obtain ⟨v,Z',h1,rfl⟩:=Da h;refine .eff (DY hd ?_ (by rw [ho];simp [BO,hc]) fun O e w N hk hR hF hN=>Ql ho hc hk hR hF hN h1);obtain ⟨vs,g1,k1⟩:=A4 h1;obtain ⟨⟨s,x⟩,g2,k2⟩:=A4 k1;obtain ⟨t,g3,k3⟩:=A4 (show ob (Mo c) _=some (v,Z') from k2);obtain ⟨t2,g4,k4⟩:=A4 k3;obtain ⟨g5,k5⟩:=H2 k4;exact WB k5
     | copy =>
       obtain ⟨v,Z',h1,rfl⟩:=Da h;refine .eff (DY hd ?_ (by rw [ho];simp [BO,hc]) fun O e w N hk hR hF hN=>WG ho hc hk hR h1);obtain ⟨vs,g1,k1⟩:=A4 h1;obtain ⟨⟨d,s⟩,g2,k2⟩:=A4 k1;obtain ⟨t,g3,k3⟩:=A4 (show ob (Mo c) _=some (v,Z') from k2);obtain ⟨el,g4,k4⟩:=A4 (show ob (elem? P t) _=some (v,Z') from k3);obtain ⟨size,g5,k5⟩:=A4 k4;obtain ⟨⟨b,off,dl⟩,g6,k6⟩:=A4 k5;obtain ⟨⟨n,cs⟩,g7,k7⟩:=A4 (show ob (Y7 Z size s) _=some (v,Z') from k6);obtain ⟨cs2,g8,k8⟩:=A4 (show ob (takeN (Nat.min n dl*size) cs) _=some (v,Z') from k7);obtain ⟨Z2,g9,k9⟩:=A4 k8;cases k9;exact .write g9
     | clear =>
       obtain ⟨v,Z',h1,rfl⟩:=Da h;refine .eff (DY hd ?_ (by rw [ho];simp [BO,hc]) fun O e w N hk hR hF hN=>TX ho hc hk hR h1);obtain ⟨vs,g1,k1⟩:=A4 h1;obtain ⟨x,g2,k2⟩:=A4 k1;obtain ⟨t,g3,k3⟩:=A4 k2;obtain ⟨el,g4,k4⟩:=A4 (show ob (elem? P t) _=some (v,Z') from k3);obtain ⟨z,g5,k5⟩:=A4 k4;obtain ⟨⟨b,off,n⟩,g6,k6⟩:=A4 k5;obtain ⟨Z2,g9,k9⟩:=A4 (show ob (Z.write b off (rep (K3 z) n)) _=some (v,Z') from k6);cases k9;exact .write g9
     | _=>cases h
 | _=>rw [ho] at h;cases h
end
def Cg (O:Place) (fr:Fr) (a:Act):Prop:=∀ t v,fr.get t=some v->∃ v',a.tmps[t]? =some v'/\H5 O v v'
theorem Cg.mono {O O':Place}{fr:Fr}{a:Act}(hm:O.le O') (h:Cg O fr a):Cg O' fr a:=fun t v ht=>let ⟨v',h1,h2⟩:=h t v ht;⟨v',h1,h2.mono hm⟩
theorem Kl (fr:Fr) (d:Tmp) (v:Value):F8 fr (some d) v=fr.set d v:=rfl
theorem Cn (a:Act) (d:Option Tmp) (v:Value):(a.put d v).tmps.size=a.tmps.size:=by cases d <;> simp [Act.put]
theorem put_defers (a:Act) (d:Option Tmp) (v:Value):(a.put d v).defers=a.defers:=by cases d <;> rfl
theorem Cg.put {O:Place}{fr:Fr}{a:Act}(h:Cg O fr a){d:Option Tmp}{v v':Value}(hv:H5 O v v') (hd:∀ t,d=some t->t<a.tmps.size):Cg O (F8 fr d v) (a.put d v'):=by
 intro t u ht;cases d with
 | none=>exact h t u ht
 | some d =>
   rw [Kl,Tr.L7] at ht;show ∃ v'',(a.tmps.setIfInBounds d v')[t]? =some v''/\_;by_cases htd:t=d
   ·subst htd;rw [if_pos rfl] at ht;cases ht;exact ⟨v',by rw [Array.getElem?_setIfInBounds_self_of_lt (hd _ rfl)],hv⟩
   ·rw [if_neg htd] at ht;obtain ⟨v'',h1,h2⟩:=h t u ht;exact ⟨v'',by rw [Array.getElem?_setIfInBounds_ne (fun h=>htd h.symm)];exact h1,h2⟩
def Gq (G:Nat) (x:Operand):Bool:=match x with
 | .global g=>Nat.blt g G
 | _=>true
def yy (n:Nat) (d:Option Tmp):Bool:=match d with
 | some d=>Nat.blt d n
 | none=>true
def AG (_P:Program) (n G:Nat) (o:Oper):Bool:=yy n o.dst&&o.op.operands.toList.all (Gq G)
theorem VX {O:Place}{fr:Fr}{a:Act}{G:Nat}(hG:Am O G){x:Operand}{v:Value}(hx:Gq G x=true) (ht:∀ t,x= .tmp t->∀ v,fr.get t=some v->∃ v',a.tmps[t]? =some v'/\H5 O v v')
  (h:ev fr x=some v):H5 O v (a.eval x):=by
 cases x with
 | tmp t =>
   obtain ⟨v',h1,h2⟩:=ht t rfl v h;show H5 O v (a.tmps.getD t undef);rw [Array.getD_eq_getD_getElem?,h1];exact h2
 | const u =>
   obtain ⟨h1,h2⟩:=H5.cst (O:=O) (show cst u=some v from h);subst h1;exact h2
 | global g =>
   cases h;obtain ⟨m,hm,-⟩:=hG g (by have:Nat.blt g G=true:=hx;rwa [Nat.blt_eq] at this);exact .ptr (off:=0) hm
 | func f=>cases h;exact .func rfl .nil .nil
theorem Ng {O:Place}{fr:Fr}{a:Act}{G:Nat}{P:Program}{n:Nat}{o:Oper}(hG:Am O G) (ho:AG P n G o=true)
  (ht:∀ t,.tmp t∈o.op.operands.toList->∀ v,fr.get t=some v->∃ v',a.tmps[t]? =some v'/\H5 O v v'):O6 O fr a.eval o.op.operands.toList:=by
 intro x v hx h;unfold AG at ho;rw [Bool.and_eq_true,List.all_eq_true] at ho;exact VX hG (ho.2 x hx) (fun t he=>by subst he;exact ht t hx) h
theorem Ni {P:Program}{n G:Nat}{o:Oper}(ho:AG P n G o=true):∀ t,o.dst=some t->t<n:=by
 intro t ht;unfold AG at ho;rw [Bool.and_eq_true,ht] at ho;have:Nat.blt t n=true:=ho.1
 rwa [Nat.blt_eq] at this
theorem HX {O:Place}{fr:Fr}{a:Act}{all:Array Oper}{o:Oper}{c:Bool}(h:P8 all fr o=some c)
  (ht:∀ j want t,o.guard=some (j,want)->DX all j=some t->∀ v,fr.get t=some v->∃ v',a.tmps[t]? =some v'/\H5 O v v'):Region.wanted o (yielded all a.tmps)=c:=by
 unfold Region.wanted;cases hg:o.guard with
 | none =>
   unfold P8 at h;rw [hg] at h;cases h;rfl
 | some g =>
   obtain ⟨j,want⟩:=g;unfold P8 at h;rw [hg] at h;change (Option.rec (motive:=fun _=>Option Bool) (some false) (fun d=>ob (fr.get d) fun v=>some (yieldOf want v)) (DX all j):Option Bool)=some c at h;have hd:(all[j]?).bind (·.dst)=DX all j:=by
    unfold DX;cases all[j]? <;> rfl
   show (yielded all a.tmps j==some want)=c;unfold yielded;rw [hd];cases hdj:DX all j with
   | none =>
     rw [hdj] at h;cases h;rfl
   | some d =>
     rw [hdj] at h;obtain ⟨v,h1,h2⟩:=A4 (show ob (fr.get d) (fun v=>some (yieldOf want v))=some c from h);obtain ⟨v',h3,h4⟩:=ht j want d hg hdj v h1;cases h2;show ((match ((some d).bind fun x=>a.tmps[x]?) with|some (.bool b)=>some b|_=>none)==some want)=_;rw [show ((some d).bind fun x=>a.tmps[x]?)=some v' from h3];cases h4 with
     | H9 hs=>cases v <;> first|rfl|(rename_i b;cases b <;> cases want <;> rfl)
     | _=>rfl
/- VH is known before: the paths of a yz order. -/
theorem Wy (acc:Array Nat) (i:Nat):∀ (l:List Edge) (s:Nat),Nat.testBit (l.foldl (fun s e=>if Region.binds .any e then s ||| 2 ^ e.on ||| acc.getD e.on 0 else s) s) i=true ->
  Nat.testBit s i=true\/∃ e∈l,Region.binds .any e=true/\(e.on=i\/Nat.testBit (acc.getD e.on 0) i=true):=by
 intro l;induction l with
 | nil=>intro s h;exact .inl h
 | cons e l ih =>
   intro s h;rw [List.foldl_cons] at h;rcases ih _ h with h1|⟨e',h1,h2,h3⟩
   ·by_cases hb:Region.binds .any e=true
    ·rw [if_pos hb,Nat.testBit_or,Nat.testBit_or,Bool.or_eq_true,Bool.or_eq_true] at h1;rcases h1 with (h1|h1)|h1
     ·exact .inl h1
     ·refine .inr ⟨e,by simp,hb,.inl ?_⟩;rw [Nat.testBit_two_pow] at h1;exact of_decide_eq_true h1
     ·exact .inr ⟨e,by simp,hb,.inr h1⟩
    ·rw [if_neg hb] at h1;exact .inl h1
   ·exact .inr ⟨e',by simp [h1],h2,h3⟩
def CG (acc:Array Nat) (o:Oper):Array Nat:=acc.push (o.after.foldl (fun s e=>if Region.binds .any e then s ||| 2 ^ e.on ||| acc.getD e.on 0 else s) 0)
theorem Ub:∀ (l:List Oper) (acc:Array Nat),
  (∀ k,k<acc.size->(l.foldl CG acc).getD k 0=acc.getD k 0) /\
  ∀ t o i,l[t]? =some o->Nat.testBit ((l.foldl CG acc).getD (acc.size+t) 0) i=true ->
   ∃ e∈o.after,Region.binds .any e=true/\(e.on=i\/(e.on<acc.size+t/\Nat.testBit ((l.foldl CG acc).getD e.on 0) i=true)):=by
 intro l;induction l with
 | nil=>intro acc;exact ⟨fun _ _=>rfl,fun t o i h=>by simp at h⟩
 | cons o l ih =>
   intro acc;obtain ⟨h1,h2⟩:=ih (CG acc o);have hsz:(CG acc o).size=acc.size+1:=by simp [CG]
   have zA:∀ k,k<acc.size->(CG acc o).getD k 0=acc.getD k 0:=by
    intro k hk;unfold CG;rw [Array.getD_eq_getD_getElem?,Array.getD_eq_getD_getElem?,Array.getElem?_push,if_neg om]
   have IW:(CG acc o).getD acc.size 0=o.after.foldl (fun s e=>if Region.binds .any e then s ||| 2 ^ e.on ||| acc.getD e.on 0 else s) 0:=by
    unfold CG;rw [Array.getD_eq_getD_getElem?,Array.getElem?_push,if_pos rfl];rfl
   refine ⟨fun k hk=>?_,fun t o' i ht hb=>?_⟩
   ·rw [List.foldl_cons,h1 k om,zA k hk]
   ·rw [List.foldl_cons] at hb ⊢;cases t with
    | zero =>
      simp at ht;subst ht;rw [Nat.add_zero,h1 acc.size om,IW,<- Array.foldl_toList] at hb;rcases Wy acc i _ _ hb with h3|⟨e,h3,h4,h5⟩
      ·simp at h3
      ·refine ⟨e,by simpa using h3,h4,?_⟩;rcases h5 with h5|h5
       ·exact .inl h5
       ·have hlt:e.on<acc.size:=by
         rcases Nat.lt_or_ge e.on acc.size with hh|hh
         ·exact hh
         ·rw [Array.getD_eq_getD_getElem?,Array.getElem?_eq_none hh] at h5;simp at h5
        exact .inr ⟨om,by rw [h1 e.on om,zA e.on hlt];exact h5⟩
    | succ t =>
      have:=h2 t o' i (by simpa using ht) (by rw [hsz,show acc.size+1+t=acc.size+(t+1) from by omega];exact hb);rw [hsz,show acc.size+1+t=acc.size+(t+1) from by omega] at this;exact this
def Bef (os:Array Oper) (i j:Nat):Prop:=Nat.testBit ((Region.before os).toList.getD j 0) i=true
theorem LY {os:Array Oper}{i j:Nat}{o:Oper}(ho:os[j]? =some o) (h:Bef os i j):∃ e∈o.after,Region.binds .any e=true/\(e.on=i\/(e.on<j/\Bef os i e.on)):=by
 have hb:Region.before os=os.toList.foldl CG #[]:=by
  unfold Region.before;rw [<- Array.foldl_toList];rfl
 have hd:∀ k,(Region.before os).toList.getD k 0=(os.toList.foldl CG #[]).getD k 0:=by
  intro k;rw [hb,Array.getD_eq_getD_getElem?,List.getD_eq_getElem?_getD,Array.getElem?_toList]
 unfold Bef at h ⊢;rw [hd] at h;obtain ⟨_,h2⟩:=Ub os.toList #[];obtain ⟨e,h3,h4,h5⟩:=h2 j o i (by simpa using ho) (by simpa using h);refine ⟨e,h3,h4,?_⟩;rcases h5 with h5|⟨h5,h6⟩
 ·exact .inl h5
 ·exact .inr ⟨by simpa using h5,by rw [hd];exact h6⟩
end Go.Ab
