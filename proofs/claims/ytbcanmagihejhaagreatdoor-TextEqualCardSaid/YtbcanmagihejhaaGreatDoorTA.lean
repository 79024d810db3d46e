/- eI on the types of the HC. -/
import Derived.Test.YtbcanmagihejhaaGreatDoorAbD
import Derived.Test.YtbcanmagihejhaaGreatDoorProg
import Derived.KernelRfl
import Derived.Shelf.Strings.OnBuilder
import Derived.Shelf.Strings.Builder1
import Derived.Lib.Bytealg
set_option linter.unusedSimpArgs false
set_option linter.unusedVariables false
set_option maxHeartbeats 32000000
set_option maxRecDepth 100000
namespace Go.Proofs.T
open Go Go.Ab
section
abbrev LDo (t:Nat):Prop:=∀ {fr:Fr} {Z:St} {a:Operand},Fo Tryz.prog fr Z t a=ob (ev fr a) fun v=>ob (at? v) fun p=>pr p fun b off=>ob (ob (Z.read b off 1) Hk) fun v=>some (v,⟨b,off,1⟩)
abbrev LDn (t n:Nat):Prop:=∀ {fr:Fr} {Z:St} {a:Operand},Fo Tryz.prog fr Z t a=ob (ev fr a) fun v=>ob (at? v) fun p=>pr p fun b off=>ob (ob (Z.read b off n) fun cs=>some (.agg ⟨cs⟩)) fun v=>some (v,⟨b,off,n⟩)
abbrev LVo (t:Nat):Prop:=∀ {Z:St} {b off:Nat},Lf Tryz.prog Z t (.pointer (some ⟨b,off,none⟩))=ob (Z.read b off 1) Hk
abbrev LVn (t n:Nat):Prop:=∀ {Z:St} {b off:Nat},Lf Tryz.prog Z t (.pointer (some ⟨b,off,none⟩))=ob (Z.read b off n) fun cs=>some (.agg ⟨cs⟩)
abbrev STn (t n:Nat):Prop:=∀ {fr:Fr} {Z:St} {a v:Operand},Ek Tryz.prog fr Z t a v=ob (ev fr a) fun a=>ob (ev fr v) fun v=>ob (ob (at? a) fun p=>pr p fun b off=>bi (CQ v) none (bb ((K3 v).length.beq n) (Z.write b off (K3 v)))) fun Z=>some (O8,Z)
abbrev FAo (t k:Nat):Prop:=∀ {fr:Fr} {x:Operand},j7 Tryz.prog fr t x k=ob (ev fr x) fun v=>ob (at? v) fun p=>pr p fun b off=>some (.pointer (some ⟨b,off,none⟩))
abbrev FAn (t k n:Nat):Prop:=∀ {fr:Fr} {x:Operand},j7 Tryz.prog fr t x k=ob (ev fr x) fun v=>ob (at? v) fun p=>pr p fun b off=>some (.pointer (some ⟨b,off+n,none⟩))
abbrev FIo (t k o:Nat):Prop:=∀ {fr:Fr} {x:Operand},Du Tryz.prog fr t x k=ob (ev fr x) fun v=>ob (Zo v) fun cs=>ob (sub cs o 1) Hk
abbrev FIn (t k o n:Nat):Prop:=∀ {fr:Fr} {x:Operand},Du Tryz.prog fr t x k=ob (ev fr x) fun v=>ob (Zo v) fun cs=>ob (sub cs o n) fun cs=>some (.agg ⟨cs⟩)
abbrev IAs (t w:Nat):Prop:=∀ {b off len cap i:Nat} {s:Option Nat},Ei Tryz.prog t (.slice (some ⟨b,off,s⟩) len cap) i=bb (Nat.blt i len) (some (.pointer (some ⟨b,off+i*w,none⟩)))
abbrev APn (t w m e:Nat):Prop:=∀ {Z:St} {b:Option Addr} {len cap:Nat} {w':Value},BN Tryz.prog Z t (.slice b len cap) w'=ob (Y7 Z w w') fun p=>pr p fun n new=>bi (Nat.ble (len+n) cap) (BF Z w b len cap n new) (bb (Nat.ble ((len+n)*m) room) (AR e Z w b len n new))
abbrev SSn (t w:Nat):Prop:=∀ {b:Option Addr} {len cap:Nat} {lo hi:Option Value},RF Tryz.prog t (.slice b len cap) lo hi=ob (Ve len cap lo hi) fun p=>pr p fun lo hi=>sliceAt w b lo hi cap
abbrev SLn (t w:Nat) (z:List Value):Prop:=∀ {fr:Fr} {len:Nat} {parts:Array (Nat×Operand)},EO Tryz.prog fr t len parts=ob (evs fr (parts.toList.map (·.2))) fun vs=>bb (Nat.ble (len*w) 16777216) (ob (As (fun i=>some (i*w,w)) ((parts.toList.map (·.1)).zip vs) (rep z len)) fun l=>some (l,fun n=> .slice (some ⟨n,0,none⟩) len len))
abbrev MKn (t m:Nat) (z:List Value):Prop:=∀ {fr:Fr} {l c:Operand},Ml Tryz.prog fr t l c=ob (evN fr l) fun l=>ob (evN fr c) fun c=>bb (Nat.ble l c) (bb (Nat.ble (c*m) room) (some (rep z c,fun n=> .slice (some ⟨n,0,none⟩) l c)))
abbrev BVn (t w n:Nat):Prop:=∀ {z:List Value} {ps:List (Nat×Value)},Av Tryz.prog t z ps=ob (As (fun i=>some (i*w,n)) ps z) fun l=>some (.agg ⟨l⟩)
end
section
variable {fr:Fr} {Z:St} {x ix a v:Operand} {ve:Value}
theorem ld3:LDo 3:=by unfold LDo;intros;kernel_rfl
theorem st3:STn 3 1:=by unfold STn;intros;kernel_rfl
theorem al3:u6 Tryz.prog 3=some ([.int .i64 0],ptrTo):=by kernel_rfl
theorem ld4:LDo 4:=by unfold LDo;intros;kernel_rfl
theorem st4:STn 4 1:=by unfold STn;intros;kernel_rfl
theorem ld5:LDo 5:=by unfold LDo;intros;kernel_rfl
theorem ld9:LDo 9:=by unfold LDo;intros;kernel_rfl
theorem st9:STn 9 1:=by unfold STn;intros;kernel_rfl
theorem AM8:LDo 22:=by unfold LDo;intros;kernel_rfl
theorem AM9:STn 22 1:=by unfold STn;intros;kernel_rfl
theorem AR0:u6 Tryz.prog 22=some ([.slice none 0 0],ptrTo):=by kernel_rfl
theorem AR1:IAs 22 1:=by unfold IAs;intros;kernel_rfl
theorem N7:APn 22 1 9 3:=by unfold APn;intros;kernel_rfl
theorem AN0:SLn 22 1 [.int .i64 0]:=by unfold SLn;intros;kernel_rfl
theorem AN1:LDo 28:=by unfold LDo;intros;kernel_rfl
theorem AN2:STn 28 1:=by unfold STn;intros;kernel_rfl
theorem AR2:IAs 28 2:=by unfold IAs;intros;kernel_rfl
theorem T1:APn 28 2 17 78:=by unfold APn;intros;kernel_rfl
theorem AN3:SLn 28 2 [.int .i64 0,.int .i64 0]:=by unfold SLn;intros;kernel_rfl
theorem AN4:LDo 29:=by unfold LDo;intros;kernel_rfl
theorem AN5:STn 29 1:=by unfold STn;intros;kernel_rfl
theorem AR3:IAs 29 5:=by unfold IAs;intros;kernel_rfl
theorem T5:APn 29 5 49 80:=by unfold APn;intros;kernel_rfl
theorem AN6:SLn 29 5 [str [],.int .i64 0,.int .i64 0,.int .i64 0,.bool false]:=by unfold SLn;intros;kernel_rfl
theorem AN7:LDo 30:=by unfold LDo;intros;kernel_rfl
theorem AN8:STn 30 1:=by unfold STn;intros;kernel_rfl
theorem AR4:IAs 30 3:=by unfold IAs;intros;kernel_rfl
theorem R6:APn 30 3 41 82:=by unfold APn;intros;kernel_rfl
theorem AN9:SLn 30 3 [str [],str [],.int .i64 0]:=by unfold SLn;intros;kernel_rfl
theorem AO0:LDn 32 2:=by unfold LDn;intros;kernel_rfl
theorem AR5:LVn 32 2:=by unfold LVn;intros;kernel_rfl
theorem AO1:STn 32 2:=by unfold STn;intros;kernel_rfl
theorem AR6:u6 Tryz.prog 32=some ([.int .i64 0,.int .i64 0],ptrTo):=by kernel_rfl
theorem AR7:y7 Tryz.prog 32=some (.agg ⟨[.int .i64 0,.int .i64 0]⟩):=by kernel_rfl
theorem AR8 {z:List Value}{ps:List (Nat×Value)}:Av Tryz.prog 32 z ps=ob (As (fun i=>[(0,1),(1,1)][i]?) ps z) fun l=>some (.agg ⟨l⟩):=by kernel_rfl
theorem uo:FAo 32 0:=by unfold FAo;intros;kernel_rfl
theorem uu:FAn 32 1 1:=by unfold FAn;intros;kernel_rfl
theorem AO2:LDo 33:=by unfold LDo;intros;kernel_rfl
theorem AO3:STn 33 1:=by unfold STn;intros;kernel_rfl
theorem AR9:IAs 33 5:=by unfold IAs;intros;kernel_rfl
theorem K2:APn 33 5 73 35:=by unfold APn;intros;kernel_rfl
theorem AO4:SLn 33 5 [str [],.int .i64 0,.int .i64 0,str [],.slice none 0 0]:=by unfold SLn;intros;kernel_rfl
theorem AO5:LDn 35 5:=by unfold LDn;intros;kernel_rfl
theorem AS0:LVn 35 5:=by unfold LVn;intros;kernel_rfl
theorem AO6:STn 35 5:=by unfold STn;intros;kernel_rfl
theorem AS1:u6 Tryz.prog 35=some ([str [],.int .i64 0,.int .i64 0,str [],.slice none 0 0],ptrTo):=by kernel_rfl
theorem AS2:y7 Tryz.prog 35=some (.agg ⟨[str [],.int .i64 0,.int .i64 0,str [],.slice none 0 0]⟩):=by kernel_rfl
theorem AS3 {z:List Value}{ps:List (Nat×Value)}:Av Tryz.prog 35 z ps=ob (As (fun i=>[(0,1),(1,2),(3,1),(4,1)][i]?) ps z) fun l=>some (.agg ⟨l⟩):=by kernel_rfl
theorem uv:FAo 35 0:=by unfold FAo;intros;kernel_rfl
theorem uw:FAn 35 1 1:=by unfold FAn;intros;kernel_rfl
theorem ux:FAn 35 2 3:=by unfold FAn;intros;kernel_rfl
theorem uy:FAn 35 3 4:=by unfold FAn;intros;kernel_rfl
theorem AO7:LDo 36:=by unfold LDo;intros;kernel_rfl
theorem AO8:STn 36 1:=by unfold STn;intros;kernel_rfl
theorem AS4:IAs 36 1:=by unfold IAs;intros;kernel_rfl
theorem R7:APn 36 1 17 9:=by unfold APn;intros;kernel_rfl
theorem AS5:SSn 36 1:=by unfold SSn;intros;kernel_rfl
theorem AO9:SLn 36 1 [str []]:=by unfold SLn;intros;kernel_rfl
theorem AP0:MKn 36 17 [str []]:=by unfold MKn;intros;kernel_rfl
theorem AP1:LDo 37:=by unfold LDo;intros;kernel_rfl
theorem AP2:STn 37 1:=by unfold STn;intros;kernel_rfl
theorem AS6:IAs 37 1:=by unfold IAs;intros;kernel_rfl
theorem Q8:APn 37 1 25 22:=by unfold APn;intros;kernel_rfl
theorem AP3:SLn 37 1 [.slice none 0 0]:=by unfold SLn;intros;kernel_rfl
theorem AP4:LDn 39 5:=by unfold LDn;intros;kernel_rfl
theorem AP5:STn 39 5:=by unfold STn;intros;kernel_rfl
theorem AS7:u6 Tryz.prog 39=some ([.int .i64 0,.int .i64 0,.int .i64 0,.int .i64 0,.int .i64 0],ptrTo):=by kernel_rfl
theorem uz:FAo 39 0:=by unfold FAo;intros;kernel_rfl
theorem vA:FAn 39 1 1:=by unfold FAn;intros;kernel_rfl
theorem vB:FAn 39 2 2:=by unfold FAn;intros;kernel_rfl
theorem vC:FAn 39 3 3:=by unfold FAn;intros;kernel_rfl
theorem vD:FAn 39 4 4:=by unfold FAn;intros;kernel_rfl
theorem AP6:LDn 41 20:=by unfold LDn;intros;kernel_rfl
theorem AS8:LVn 41 20:=by unfold LVn;intros;kernel_rfl
theorem AP7:STn 41 20:=by unfold STn;intros;kernel_rfl
theorem AS9:u6 Tryz.prog 41=some ([str [],.slice none 0 0,.slice none 0 0,.slice none 0 0,.int .i64 0,.int .i64 0,str [],.int .i64 0,.int .i64 0,str [],.slice none 0 0,.slice none 0 0,.int .i64 0,.slice none 0 0,.int .i64 0,.int .i64 0,.int .i64 0,.int .i64 0,.int .i64 0,.int .i64 0],ptrTo):=by kernel_rfl
theorem AT0:y7 Tryz.prog 41=some (.agg ⟨[str [],.slice none 0 0,.slice none 0 0,.slice none 0 0,.int .i64 0,.int .i64 0,str [],.int .i64 0,.int .i64 0,str [],.slice none 0 0,.slice none 0 0,.int .i64 0,.slice none 0 0,.int .i64 0,.int .i64 0,.int .i64 0,.int .i64 0,.int .i64 0,.int .i64 0]⟩):=by kernel_rfl
theorem AT1 {z:List Value}{ps:List (Nat×Value)}:Av Tryz.prog 41 z ps=ob (As (fun i=>[(0,1),(1,1),(2,1),(3,1),(4,1),(5,1),(6,5),(11,1),(12,1),(13,1),(14,1),(15,5)][i]?) ps z) fun l=>some (.agg ⟨l⟩):=by kernel_rfl
theorem vE:FAo 41 0:=by unfold FAo;intros;kernel_rfl
theorem vF:FAn 41 1 1:=by unfold FAn;intros;kernel_rfl
theorem vG:FAn 41 2 2:=by unfold FAn;intros;kernel_rfl
theorem vH:FAn 41 3 3:=by unfold FAn;intros;kernel_rfl
theorem vI:FAn 41 4 4:=by unfold FAn;intros;kernel_rfl
theorem vJ:FAn 41 5 5:=by unfold FAn;intros;kernel_rfl
theorem vK:FAn 41 6 6:=by unfold FAn;intros;kernel_rfl
theorem vL:FAn 41 7 11:=by unfold FAn;intros;kernel_rfl
theorem vM:FAn 41 8 12:=by unfold FAn;intros;kernel_rfl
theorem vN:FAn 41 9 13:=by unfold FAn;intros;kernel_rfl
theorem ow:FAn 41 10 14:=by unfold FAn;intros;kernel_rfl
theorem ox:FAn 41 11 15:=by unfold FAn;intros;kernel_rfl
theorem AP8:LDo 43:=by unfold LDo;intros;kernel_rfl
theorem AP9:STn 43 1:=by unfold STn;intros;kernel_rfl
theorem AT2:IAs 43 1:=by unfold IAs;intros;kernel_rfl
theorem J0:APn 43 1 2 5:=by unfold APn;intros;kernel_rfl
theorem AQ0:LDo 47:=by unfold LDo;intros;kernel_rfl
theorem AQ1:LDn 78 2:=by unfold LDn;intros;kernel_rfl
theorem AQ2:STn 78 2:=by unfold STn;intros;kernel_rfl
theorem AT3:u6 Tryz.prog 78=some ([.int .i64 0,.int .i64 0],ptrTo):=by kernel_rfl
theorem AT4:y7 Tryz.prog 78=some (.agg ⟨[.int .i64 0,.int .i64 0]⟩):=by kernel_rfl
theorem AT5 {z:List Value}{ps:List (Nat×Value)}:Av Tryz.prog 78 z ps=ob (As (fun i=>[(0,1),(1,1)][i]?) ps z) fun l=>some (.agg ⟨l⟩):=by kernel_rfl
theorem vO:FAo 78 0:=by unfold FAo;intros;kernel_rfl
theorem vP:FAn 78 1 1:=by unfold FAn;intros;kernel_rfl
theorem AQ3:LDn 80 5:=by unfold LDn;intros;kernel_rfl
theorem AQ4:STn 80 5:=by unfold STn;intros;kernel_rfl
theorem AT6:u6 Tryz.prog 80=some ([str [],.int .i64 0,.int .i64 0,.int .i64 0,.bool false],ptrTo):=by kernel_rfl
theorem AT7:y7 Tryz.prog 80=some (.agg ⟨[str [],.int .i64 0,.int .i64 0,.int .i64 0,.bool false]⟩):=by kernel_rfl
theorem AT8 {z:List Value}{ps:List (Nat×Value)}:Av Tryz.prog 80 z ps=ob (As (fun i=>[(0,1),(1,1),(2,1),(3,1),(4,1)][i]?) ps z) fun l=>some (.agg ⟨l⟩):=by kernel_rfl
theorem vQ:FAo 80 0:=by unfold FAo;intros;kernel_rfl
theorem vR:FAn 80 1 1:=by unfold FAn;intros;kernel_rfl
theorem vS:FAn 80 2 2:=by unfold FAn;intros;kernel_rfl
theorem vT:FAn 80 3 3:=by unfold FAn;intros;kernel_rfl
theorem vU:FAn 80 4 4:=by unfold FAn;intros;kernel_rfl
theorem AQ5:LDn 82 3:=by unfold LDn;intros;kernel_rfl
theorem AQ6:STn 82 3:=by unfold STn;intros;kernel_rfl
theorem AT9:u6 Tryz.prog 82=some ([str [],str [],.int .i64 0],ptrTo):=by kernel_rfl
theorem AU0:y7 Tryz.prog 82=some (.agg ⟨[str [],str [],.int .i64 0]⟩):=by kernel_rfl
theorem AU1 {z:List Value}{ps:List (Nat×Value)}:Av Tryz.prog 82 z ps=ob (As (fun i=>[(0,1),(1,1),(2,1)][i]?) ps z) fun l=>some (.agg ⟨l⟩):=by kernel_rfl
theorem vV:FAo 82 0:=by unfold FAo;intros;kernel_rfl
theorem vW:FAn 82 1 1:=by unfold FAn;intros;kernel_rfl
theorem vX:FAn 82 2 2:=by unfold FAn;intros;kernel_rfl
theorem AU2:LVn 86 2:=by unfold LVn;intros;kernel_rfl
theorem AQ7:STn 86 2:=by unfold STn;intros;kernel_rfl
theorem AU3:u6 Tryz.prog 86=some ([.int .i64 0,.int .i64 0],ptrTo):=by kernel_rfl
theorem AU4:y7 Tryz.prog 86=some (.agg ⟨[.int .i64 0,.int .i64 0]⟩):=by kernel_rfl
theorem AU5 {z:List Value}{ps:List (Nat×Value)}:Av Tryz.prog 86 z ps=ob (As (fun i=>[(0,1),(1,1)][i]?) ps z) fun l=>some (.agg ⟨l⟩):=by kernel_rfl
theorem vY:FAo 86 0:=by unfold FAo;intros;kernel_rfl
theorem vZ:FAn 86 1 1:=by unfold FAn;intros;kernel_rfl
theorem AQ8:LDo 97:=by unfold LDo;intros;kernel_rfl
theorem AU6:IAs 97 2:=by unfold IAs;intros;kernel_rfl
theorem J5:APn 97 2 25 138:=by unfold APn;intros;kernel_rfl
theorem AQ9:SLn 97 2 [str [],.int .i64 0]:=by unfold SLn;intros;kernel_rfl
theorem zY:LDo 101:=by unfold LDo;intros;kernel_rfl
theorem zl:u6 Tryz.prog 116=some ([.pointer none,.slice none 0 0],ptrTo):=by kernel_rfl
theorem oy:FAn 116 1 1:=by unfold FAn;intros;kernel_rfl
theorem zZ:LDo 131:=by unfold LDo;intros;kernel_rfl
theorem zm:y7 Tryz.prog 133=some (.agg ⟨[.slice none 0 0,.int .i64 0]⟩):=by kernel_rfl
theorem zn {z:List Value}{ps:List (Nat×Value)}:Av Tryz.prog 133 z ps=ob (As (fun i=>[(0,1),(1,1)][i]?) ps z) fun l=>some (.agg ⟨l⟩):=by kernel_rfl
theorem oz:FAo 133 0:=by unfold FAo;intros;kernel_rfl
theorem pA:FAn 133 1 1:=by unfold FAn;intros;kernel_rfl
theorem za:LDo 134:=by unfold LDo;intros;kernel_rfl
theorem zo:y7 Tryz.prog 136=some (.agg ⟨[.slice none 0 0,.int .i64 0,str [],.int .i64 0,.pointer none]⟩):=by kernel_rfl
theorem zp {z:List Value}{ps:List (Nat×Value)}:Av Tryz.prog 136 z ps=ob (As (fun i=>[(0,2),(2,1),(3,1),(4,1)][i]?) ps z) fun l=>some (.agg ⟨l⟩):=by kernel_rfl
theorem pB:FAo 136 0:=by unfold FAo;intros;kernel_rfl
theorem pC:FAn 136 1 2:=by unfold FAn;intros;kernel_rfl
theorem pD:FAn 136 2 3:=by unfold FAn;intros;kernel_rfl
theorem pE:FAn 136 3 4:=by unfold FAn;intros;kernel_rfl
theorem zb:LDn 138 2:=by unfold LDn;intros;kernel_rfl
theorem zq:LVn 138 2:=by unfold LVn;intros;kernel_rfl
theorem zc:STn 138 2:=by unfold STn;intros;kernel_rfl
theorem zr:u6 Tryz.prog 138=some ([str [],.int .i64 0],ptrTo):=by kernel_rfl
theorem zt:y7 Tryz.prog 138=some (.agg ⟨[str [],.int .i64 0]⟩):=by kernel_rfl
theorem zu {z:List Value}{ps:List (Nat×Value)}:Av Tryz.prog 138 z ps=ob (As (fun i=>[(0,1),(1,1)][i]?) ps z) fun l=>some (.agg ⟨l⟩):=by kernel_rfl
theorem pF:FAo 138 0:=by unfold FAo;intros;kernel_rfl
theorem pG:FIo 138 0 0:=by unfold FIo;intros;kernel_rfl
theorem pH:FAn 138 1 1:=by unfold FAn;intros;kernel_rfl
theorem pI:FIo 138 1 1:=by unfold FIo;intros;kernel_rfl
theorem zd:LDo 140:=by unfold LDo;intros;kernel_rfl
theorem ze:LDo 141:=by unfold LDo;intros;kernel_rfl
theorem zf:STn 143 3:=by unfold STn;intros;kernel_rfl
theorem zv:u6 Tryz.prog 143=some ([.nilFunc,.bool false,.nilFunc],ptrTo):=by kernel_rfl
theorem zw:y7 Tryz.prog 143=some (.agg ⟨[.nilFunc,.bool false,.nilFunc]⟩):=by kernel_rfl
theorem zx {z:List Value}{ps:List (Nat×Value)}:Av Tryz.prog 143 z ps=ob (As (fun i=>[(0,1),(1,1),(2,1)][i]?) ps z) fun l=>some (.agg ⟨l⟩):=by kernel_rfl
theorem pJ:FAo 143 0:=by unfold FAo;intros;kernel_rfl
theorem pK:FAn 143 1 1:=by unfold FAn;intros;kernel_rfl
theorem pL:FAn 143 2 2:=by unfold FAn;intros;kernel_rfl
theorem AA0:y7 Tryz.prog 152=some (.agg ⟨[.slice none 0 0,.int .i64 0,.int .i64 0]⟩):=by kernel_rfl
theorem AA1 {z:List Value}{ps:List (Nat×Value)}:Av Tryz.prog 152 z ps=ob (As (fun i=>[(0,2),(2,1)][i]?) ps z) fun l=>some (.agg ⟨l⟩):=by kernel_rfl
theorem pM:FAo 152 0:=by unfold FAo;intros;kernel_rfl
theorem pN:FAn 152 1 2:=by unfold FAn;intros;kernel_rfl
theorem zg:LDn 154 6:=by unfold LDn;intros;kernel_rfl
theorem AA2:LVn 154 6:=by unfold LVn;intros;kernel_rfl
theorem zh:STn 154 6:=by unfold STn;intros;kernel_rfl
theorem AA3:u6 Tryz.prog 154=some ([str [],.int .i64 0,.int .i64 0,str [],.slice none 0 0,.int .i64 0],ptrTo):=by kernel_rfl
theorem AA4:y7 Tryz.prog 154=some (.agg ⟨[str [],.int .i64 0,.int .i64 0,str [],.slice none 0 0,.int .i64 0]⟩):=by kernel_rfl
theorem AA5 {z:List Value}{ps:List (Nat×Value)}:Av Tryz.prog 154 z ps=ob (As (fun i=>[(0,5),(5,1)][i]?) ps z) fun l=>some (.agg ⟨l⟩):=by kernel_rfl
theorem pO:FAo 154 0:=by unfold FAo;intros;kernel_rfl
theorem pP:FAn 154 1 5:=by unfold FAn;intros;kernel_rfl
theorem zi:LDo 180:=by unfold LDo;intros;kernel_rfl
theorem AA6:IAs 202 1:=by unfold IAs;intros;kernel_rfl
theorem F4:APn 202 1 9 101:=by unfold APn;intros;kernel_rfl
theorem zj:SLn 202 1 [.pointer none]:=by unfold SLn;intros;kernel_rfl
theorem AA7:y7 Tryz.prog 254=some (.agg ⟨[.bool false,.int .u64 0,.int .u64 0]⟩):=by kernel_rfl
theorem AA8 {z:List Value}{ps:List (Nat×Value)}:Av Tryz.prog 254 z ps=ob (As (fun i=>[(0,1),(1,1),(2,1)][i]?) ps z) fun l=>some (.agg ⟨l⟩):=by kernel_rfl
theorem pQ:FAo 254 0:=by unfold FAo;intros;kernel_rfl
theorem pR:FAn 254 1 1:=by unfold FAn;intros;kernel_rfl
theorem pT:FAn 254 2 2:=by unfold FAn;intros;kernel_rfl
theorem AA9:y7 Tryz.prog 266=some (.agg ⟨[.int .u64 0,.int .u64 0]⟩):=by kernel_rfl
theorem AB0 {z:List Value}{ps:List (Nat×Value)}:Av Tryz.prog 266 z ps=ob (As (fun i=>[(0,1),(1,1)][i]?) ps z) fun l=>some (.agg ⟨l⟩):=by kernel_rfl
theorem pU:FAo 266 0:=by unfold FAo;intros;kernel_rfl
theorem pV:FAn 266 1 1:=by unfold FAn;intros;kernel_rfl
end
end Go.Proofs.T
namespace Go.Proofs
open Go.Shelf
def Tryz.LK:Go.Shelf.Ren:=⟨fun|156=>66|165=>111|166=>65|169=>68|240=>110|241=>152|276=>151|277=>187|n=>n,fun|31=>36|9=>9|3=>3|4=>4|0=>0|20=>20|72=>116|76=>119|70=>114|37=>43|75=>118|127=>174|164=>190|5=>5|80=>125|n=>n,fun|n=>n⟩
theorem Tryz.Xp:Go.Proofs.Lays.n156 Tryz.prog Tryz.LK:={
 mixed:=by kernel_rfl
 f156:=Tryz.func66.trans (congrArg some (by kernel_rfl))
 f165:=Tryz.func111.trans (congrArg some (by kernel_rfl))
 f166:=Tryz.func65.trans (congrArg some (by kernel_rfl))
 f169:=Tryz.func68.trans (congrArg some (by kernel_rfl))
 f240:=Tryz.func110.trans (congrArg some (by kernel_rfl))
 f241:=Tryz.func152.trans (congrArg some (by kernel_rfl))
 f276:=Tryz.func151.trans (congrArg some (by kernel_rfl))
 f277:=Tryz.func187.trans (congrArg some (by kernel_rfl))
 t0:=Tryz.underlying0
 a0:=Tryz.isAgg0
 z0:=Tryz.sizeOf0
 v0:=Tryz.zeroValue0
 t3:=Tryz.underlying3
 a3:=Tryz.isAgg3
 z3:=Tryz.sizeOf3
 v3:=Tryz.zeroValue3
 t4:=Tryz.underlying4
 a4:=Tryz.isAgg4
 z4:=Tryz.sizeOf4
 v4:=Tryz.zeroValue4
 t9:=Tryz.underlying9
 a9:=Tryz.isAgg9
 z9:=Tryz.sizeOf9
 v9:=Tryz.zeroValue9
 t20:=Tryz.underlying20
 a20:=Tryz.isAgg20
 z20:=Tryz.sizeOf20
 v20:=Tryz.zeroValue20
 t31:=Tryz.underlying36
 a31:=Tryz.isAgg36
 z31:=Tryz.sizeOf36
 v31:=Tryz.zeroValue36
 t37:=Tryz.underlying43
 a37:=Tryz.isAgg43
 z37:=Tryz.sizeOf43
 v37:=Tryz.zeroValue43
 t70:=Tryz.underlying114
 a70:=Tryz.isAgg114
 z70:=Tryz.sizeOf114
 v70:=Tryz.zeroValue114
 t72:=Tryz.underlying116
 a72:=Tryz.isAgg116
 z72:=Tryz.sizeOf116
 v72:=Tryz.zeroValue116
 t75:=Tryz.underlying118
 a75:=Tryz.isAgg118
 z75:=Tryz.sizeOf118
 v75:=Tryz.zeroValue118
 t76:=Tryz.underlying119
 a76:=Tryz.isAgg119
 z76:=Tryz.sizeOf119
 v76:=Tryz.zeroValue119
 t127:=Tryz.underlying174
 a127:=Tryz.isAgg174
 z127:=Tryz.sizeOf174
 v127:=Tryz.zeroValue174
 t164:=Tryz.underlying190
 a164:=Tryz.isAgg190
 z164:=Tryz.sizeOf190
 v164:=Tryz.zeroValue190 }
theorem Tryz.qG:Builder.Extra Tryz.prog Tryz.LK:={
 sizeBuilder:=by kernel_rfl
 liesBuilder:=by kernel_rfl
 t5:=Tryz.underlying5
 a5:=Tryz.isAgg5
 z5:=Tryz.sizeOf5
 v5:=Tryz.zeroValue5
 infoByte:=by kernel_rfl
 cellsByte:=by kernel_rfl
 sizeByte:=by kernel_rfl
 neB5:=by decide }
end Go.Proofs
namespace Go.Proofs.T
open Go Go.Ab Go.RowKit
theorem bL {P:Program}{e s m:Nat}(hb:Nat.ble 1 P.depth=true) (hs:P.cellsOf e=s) (h0:0<s) (hm:s<=m):liesAt P P.depth e (m / P.cellsOf e) 0 e 1=true:=by
 obtain ⟨d,hd⟩:∃ d,P.depth=d+1:=⟨P.depth-1,by have:=Nat.le_of_ble_eq_true hb;omega⟩
 rw [hd];unfold liesAt;rw [hd];have h1:1<=m / s:=(Nat.le_div_iff_mul_le h0).2 om;have hr:rowAt P (sameLayout P (d+1) · e) (d+1) e (m / P.cellsOf e) 0 1=true:=by
  unfold rowAt;rw [hs];simp only [if_neg (show ¬ s=0 by omega),Nat.zero_div,Nat.zero_mod,beq_self_eq_true,Bool.true_and];have:sameLayout P (d+1) e e=true:=by unfold sameLayout;simp
  rw [this];simp [h1]
 rw [hr];rfl
theorem Ww (c:Nat) (w:World) (h0:w.cell? ⟨c,0,none⟩=some (.pointer (some ⟨c,0,none⟩))) :
  Calls Tryz.prog 110 #[.pointer (some ⟨c,0,none⟩)] w fun e w'=>e= .returned (.tuple #[])/\w'=w:=by
 obtain ⟨j,hj,_⟩:=Option.map_eq_some_iff.1 (show (Tryz.prog.info? 116).map (·.size)=some 2 by kernel_rfl)
 go_enter Tryz.func110,Tryz.ntmps110
 go_wp2
 rw [Lib.run_neq_ptr_same w _ Tryz.underlying114 hj]
 go_wp2
 go_end0
 exact ⟨rfl,rfl⟩
theorem Ua (c m:Nat) (w:World) (h0:w.cell? ⟨c,0,none⟩=some (.pointer none)) (hsh:w.shape? c=some (116,m)) (hm:2<=m) (hfz:w.frozen? ⟨c,0,none⟩=false) :
  Calls Tryz.prog 110 #[.pointer (some ⟨c,0,none⟩)] w fun e w'=>e= .returned (.tuple #[])/\w'=w.setCell ⟨c,0,none⟩ (.pointer (some ⟨c,0,none⟩)):=by
 obtain ⟨j,hj,hjs⟩:=Option.map_eq_some_iff.1 (show (Tryz.prog.info? 116).map (·.size)=some 2 by kernel_rfl)
 go_enter Tryz.func110,Tryz.ntmps110
 go_wp2
 rw [Lib.run_to_unsafe w ⟨c,0,none⟩ Tryz.underlying114 Tryz.underlying190 hj (by rw [hjs];decide) hsh (by show 0<m;omega)];simp only [Result.andThen];rw [Oper.upon_value]
 go_wp2
 rw [run_callFunc_extern Tryz.func151 (by kernel_rfl) (by kernel_rfl) (by kernel_rfl) (e:=Extern.AbiNoEscape.same) (by kernel_rfl)];rw [Lib.run_noEscape];simp only [Result.andThen];rw [Oper.upon_value]
 go_wp2
 rw [Lib.run_from_unsafe w ⟨c,0,none⟩ Tryz.underlying190 Tryz.underlying114 hj hsh (bL (by kernel_rfl) (s:=2) (by kernel_rfl) om hm)];simp only [Result.andThen];rw [Oper.upon_value]
 go_wp2
 go_end0
 exact ⟨rfl,rfl⟩
theorem Wx (c g cap cells:Nat) (l:List UInt8) (w:World) (hc:w.cell? ⟨c,1,none⟩=some (.slice (some ⟨g,0,none⟩) l.length cap)) (ck:l.length<=cap) (hsh:w.shape? g=some (5,cells)) (h0:l≠[]) (hn:l.length<=cells) (h63:l.length<=9223372036854775807)
  (UC:∀ j x,l[j]? =some x->w.cell? ((⟨g,0,none⟩:Addr).add j)=some (.int .u8 x.toNat)) :
  Calls Tryz.prog 68 #[.pointer (some ⟨c,0,none⟩)] w fun e w'=>e= .returned (.string ⟨l.toArray⟩)/\w'=w.drew.freeze ⟨g,0,none⟩ l.length:=by
 have hl:l.length≠0:=by simpa using h0
 have c1:w.drew.cell? ⟨c,1,none⟩=some (.slice (some ⟨g,0,none⟩) l.length cap):=hc
 have hSD:(Builtin.unsafeSliceData_ #[43] 174 #[.slice (some ⟨g,0,none⟩) l.length cap]).run Tryz.prog w.drew= .ok (.pointer (some ⟨g,0,none⟩)) w.drew :=
  Lib.run_unsafeSliceData_row _ _ _ _ _ _ om
 have hUS:(Builtin.unsafeString_ #[174,3] 9 #[.pointer (some ⟨g,0,none⟩),.int .i64 l.length]).run Tryz.prog w.drew= .ok (.string ⟨l.toArray⟩) (w.drew.freeze ⟨g,0,none⟩ l.length) :=
  Lib.run_unsafeString_row w.drew 174 3 9 5 Tryz.underlying174 (by kernel_rfl) g cells hsh l h0 hn h63 UC
 have mixed:Tryz.prog.follows .mixedOrders=true:=by kernel_rfl
 go_enter Tryz.func68,Tryz.ntmps68
 go_wp2
 go_region_o
 all_goals (go_wp2;go_ret;exact ⟨rfl,rfl⟩)
end Go.Proofs.T
namespace Go.Proofs.T
open Go Go.Ab
theorem xg (x:Value) (w:World):(invoke (.fn (.func 69) #[x]) #[]).run Tryz.prog w= .ok (.enter 69 #[x]) w:=by
 have h1:Tryz.prog.funcs[69]? =some Tryz.f69:=Tryz.func69;simp [invoke,callFunc,Sem.run_bind,run_program,Result.andThen_ok,h1];rw [if_neg (of_decide_eq_false (by kernel_rfl)),if_neg (by intro h;cases h)]
theorem km (Q:Exit->Act->World->Prop) (a:Act) (w:World) (x:Value) (hs:7<=a.tmps.size) (hx:a.tmps[2]? =some x) (h:Q .normal (deferred a 3 69 x) w){p1 p2:String}{e1 e2:Array Edge}{i t1 t2:Nat} :
  (Code.region i #[⟨some 3,.makeFunc (.func 69) #[] #[.tmp 2],t1,p1,e1,none⟩,⟨none,.defer ⟨.value (.tmp 3),#[],#[]⟩,t2,p2,e2,none⟩] false).wpIn Fence.wide 0 Tryz.prog Q a w:=by
 refine wpIn_region_list ?_;simp only [wpListIn,Region.wanted,if_true];refine ⟨fun _ _=>trivial,?_⟩;have k1:(Oper.semAt Fence.wide.round a.eval ⟨some 3,.makeFunc (.func 69) #[] #[.tmp 2],t1,p1,e1,none⟩).run Tryz.prog w= .ok (.value (.func (.func 69) #[] #[x])) w:=by
  simp [Fence.wide,Oper.semAt_none,execOp,Instr.makeFunc,Act.eval,hx]
 rw [k1];show Oper.wpIn _ _ _ _ _ _ _ _;refine ⟨fun _ _=>trivial,?_⟩;have k2:(Oper.semAt Fence.wide.round (a.put (some 3) (.func (.func 69) #[] #[x])).eval ⟨none,.defer ⟨.value (.tmp 3),#[],#[]⟩,t2,p2,e2,none⟩).run Tryz.prog w= .ok (.defer { target:= .fn (.func 69) #[x],args:=#[] }) w:=by
  have hx3:(a.put (some 3) (.func (.func 69) #[] #[x])).tmps[3]? =some (.func (.func 69) #[] #[x]):=by
   show (a.tmps.setIfInBounds 3 _)[3]? =_;rw [Array.getElem?_setIfInBounds,if_pos rfl,if_pos om]
  simp [Fence.wide,Oper.semAt_none,execOp,Act.eval,hx3,resolve,Deferred.ofValue]
 rw [k2];exact h
theorem Vk (x:Value) (w:World):CallsDIn Fence.wide 0 Tryz.prog 69 #[x] .returning w fun e u' w'=>(∃ v,e= .returned v)/\u'= .returning/\w'=w:=by
 refine callsDIn_of_wpSIn Tryz.func69 rfl trivial fun c₀ cs hu=>?_;apply wpSIn_seq;apply wpSIn_region;simp [wpOpsSIn,go_sem,recoverD,hu,Tryz.ntmps69,Exit.thenS];apply wpSIn_seq;apply wpSIn_region;have e1:Tryz.prog.underlying 20=some (.interface #[]):=Tryz.underlying20;have e3:∀ w:World,(Op.equalIn Op.maxDepth 20 .nilIface .nilIface).run Tryz.prog w= .ok true w:=fun w=>DH _ (show N1 Tryz.prog (Op.equalIn Op.maxDepth 20 .nilIface .nilIface)=some true by kernel_rfl) w;simp [wpOpsSIn,go_sem,recoverD,hu,Tryz.ntmps69,Exit.thenS,eqGuard,binOp,Op.equal,e1,e3];refine wpSIn_cond (t:=false) (by simp [Act.eval,Array.replicate]) ?_;refine wpSIn_of_wpIn rfl (wpIn_skip ?_);simp [bodyPostS,results,go_sem,hu];cases c₀;cases hu;rfl
section
variable {P:Program} {n:Nat} {Q:Exit->Act->List Frame->World->Prop} {a:Act} {cs:List Frame} {w w':World} {ops:Array Oper} {i:Nat} {rest:List Nat} {o:Oper}
theorem opS {v:Value}(ho:ops[i]? =some o) (hg:o.guard=none) (h:(execOp a.eval o).run P w= .ok (.value v) w') (k:wpOpsSIn Fence.wide n P ops Q rest (a.put o.dst v) cs w'):wpOpsSIn Fence.wide n P ops Q (i::rest) a cs w:=by
 simp only [wpOpsSIn,ho,Region.wanted,hg,if_true,h];exact ⟨fun _ _=>trivial,k⟩
theorem xh (ho:ops[i]? =some o) (hg:o.guard=none) (h:(execOp a.eval o).run P w= .ok .skip w') (k:wpOpsSIn Fence.wide n P ops Q rest (a.put o.dst undef) cs w'):wpOpsSIn Fence.wide n P ops Q (i::rest) a cs w:=by
 simp only [wpOpsSIn,ho,Region.wanted,hg,if_true,h];exact ⟨fun _ _=>trivial,k⟩
theorem NQ {e:Operand->Value}{t:TypeId}{x y:Operand}(ho:o.op= .store t x y){p v:Value}(hx:e x=p) (hy:e y=v) (h:(Instr.storeAt t p v).run P w= .ok () w'):(execOp e o).run P w= .ok .skip w':=by
 simp only [execOp,ho,hx,hy,Sem.run_bind,h];rfl
theorem Zk {e:Operand->Value}{t:TypeId}{x:Operand}(ho:o.op= .load t x){p u:Value}(hx:e x=p) (h:(Instr.loadAt t p).run P w= .ok u w'):(execOp e o).run P w= .ok (.value u) w':=by
 simp only [execOp,ho,hx,Sem.run_bind,h];rfl
theorem Vl {e:Operand->Value}{t:TypeId}(ho:o.op= .alloc t){u:Value}(h:(Instr.alloc t true (.tuple #[])).run P w= .ok u w'):(execOp e o).run P w= .ok (.value u) w':=by
 simp only [execOp,ho,Sem.run_bind,h];rfl
end
theorem TD (x v:Value) (w w':World) (h:Kf Tryz.prog 86 x v w w'):CallsDIn Fence.wide 0 Tryz.prog 69 #[x] (.panicking [{ v:= .iface 86 v,recovered:=false }]) w fun e u' w''=>(∃ v,e= .returned v)/\settle u'= .returning/\w''=w':=by
 obtain ⟨w1,w2,u,h1,h2,h3,h4⟩:=h;refine callsDIn_of_wpSIn Tryz.func69 rfl trivial fun c₀ cs hu=>?_;apply wpSIn_seq;apply wpSIn_region;simp [wpOpsSIn,go_sem,recoverD,hu,Tryz.ntmps69,Exit.thenS];apply wpSIn_seq;apply wpSIn_region;have e1:Tryz.prog.underlying 20=some (.interface #[]):=Tryz.underlying20;have e3:∀ w:World,(Op.equalIn Op.maxDepth 20 (.iface 86 v) .nilIface).run Tryz.prog w= .ok false w:=fun w=>DH _ (show N1 Tryz.prog (Op.equalIn Op.maxDepth 20 (.iface 86 v) .nilIface)=some false by kernel_rfl) w;simp [wpOpsSIn,go_sem,recoverD,hu,Tryz.ntmps69,Exit.thenS,eqGuard,binOp,Op.equal,e1,e3];refine wpSIn_cond (t:=true) (by simp [Act.eval,Array.replicate]) ?_;simp only [if_true];apply wpSIn_seq;apply wpSIn_region;show wpOpsSIn _ _ _ _ _ [0,1,2,3,4,5,6,7] _ _ _;refine opS rfl rfl (by simp [go_sem];exact ⟨rfl,rfl⟩) ?_;refine opS rfl rfl (by simp [go_sem,Instr.typeAssert];exact ⟨rfl,rfl⟩) ?_;refine opS rfl rfl (by simp [go_sem];exact ⟨rfl,rfl⟩) ?_;refine opS rfl rfl (by simp [go_sem];exact ⟨rfl,rfl⟩) ?_;refine opS rfl rfl (by simp [go_sem];exact ⟨rfl,rfl⟩) ?_;refine opS rfl rfl (Vl rfl h1) ?_;refine xh rfl rfl (NQ rfl (by simp [go_sem]) (by simp [go_sem]) h2) ?_;refine opS rfl rfl (by simp [go_sem];exact ⟨rfl,rfl⟩) ?_;apply wpSIn_seq;apply wpSIn_seq;apply wpSIn_region;show wpOpsSIn _ _ _ _ _ [0,1] _ _ _;refine opS rfl rfl (by simp [go_sem];exact ⟨rfl,rfl⟩) ?_;refine opS rfl rfl (by simp [go_sem];first|rfl|exact ⟨rfl,rfl⟩) ?_;refine wpSIn_cond (t:=false) (by simp [go_sem]) ?_;refine wpSIn_of_wpIn rfl (wpIn_skip ?_);apply wpSIn_region;show wpOpsSIn _ _ _ _ _ [0,1] _ _ _;refine opS rfl rfl (Zk rfl (by simp [go_sem]) h3) ?_;refine xh rfl rfl (NQ rfl (by simp [go_sem]) (by simp [go_sem]) h4) ?_;show bodyPostS _ _ _ _ _ .normal _ _ _;simp [bodyPostS,results,go_sem,hu];cases c₀;cases hu;rfl
noncomputable def parts:Code×Code×Code×Code:=match Tryz.f38.body with
 | some (.seq a (.seq b (.seq c (.seq d .ret))))=>(a,b,c,d)
 | _=>(.skip,.skip,.skip,.skip)
noncomputable def MM:di:=dj Tryz.prog parts.1 parts.2.2.1 parts.2.2.2 3 2 86 86 [.cell 2 86]
theorem Vm {base:Env}{G:Nat}(hG:codeOk Tryz.prog 7 G parts.1=true/\codeOk Tryz.prog 7 G parts.2.2.1=true/\codeOk Tryz.prog 7 G parts.2.2.2=true){run:RunT}(hE:IZ Tryz.prog base G run){vs:List Value}{Z:St}{r:CR}(h:MM.f run vs Z=some r) :
  Adv Z r.Z/\∀ O w vs' N,Rel base O Z w->Ax O Z.n N->r.Z.n<=N->Am O G->D8 O vs vs'->Az Tryz.prog base O 38 vs' Z w r :=
 Vn (c1:=parts.2.1) (k:=69) Tryz.func38 (by kernel_rfl) rfl (fun Q a w x h1 h2 h3=>km Q a w x h1 h2 h3) xg Vk TD hG.1 hG.2.1 hG.2.2 hE h
end Go.Proofs.T
namespace Go.Proofs.T
open Go Go.Ab Go.RowKit
noncomputable def ckF (vs:List Value) (Z:St):Option CR:=match vs with
 | [.pointer (some ⟨b,0,none⟩)]=>ob (Z.typ b) fun t=>bb (Nat.beq t 116) (ob (Z.read b 0 2) fun cs=>(match cs with
   | [.pointer none,_]=>ob (Z.write b 0 [.pointer (some ⟨b,0,none⟩)]) fun Z=>some ⟨false,.tuple #[],Z⟩
   | [.pointer (some ⟨c,0,none⟩),_]=>bb (Nat.beq c b) (some ⟨false,.tuple #[],Z⟩)
   | _=>none))
 | _=>none
noncomputable def TQ (v:Value):Option UInt8:=match v with
 | .int .u8 (.ofNat n)=>bb (Nat.blt n 256) (some (UInt8.ofNat n))
 | _=>none
noncomputable def Ki (l:List Value):Option (List UInt8) :=
 List.rec (motive:=fun _=>Option (List UInt8)) (some []) (fun v _ ih=>ob (TQ v) fun b=>ob ih fun bs=>some (b::bs)) l
noncomputable def lS (vs:List Value) (Z:St):Option CR:=match vs with
 | [.pointer (some ⟨b,0,none⟩)]=>ob (Z.typ b) fun t=>bb (Nat.beq t 116) (ob (Z.read b 0 2) fun cs=>(match cs with
   | [_,.slice (some ⟨g,0,_⟩) (n+1) k]=>ob (Z.typ g) fun t=>bb (Nat.beq t 5) (bb (Nat.ble (n+1) k) (bb (Nat.ble n room) (ob (Z.read g 0 (n+1)) fun cs=>ob (Ki cs) fun l=>ob (Z.kill g) fun Z=>some ⟨false,.string ⟨l.toArray⟩,Z⟩)))
   | _=>none))
 | _=>none
section
variable {base:Env} {G:Nat}
theorem LA {O:Ab.Place}{w:World}{q:V9}{cells:List Value}{v1 v2:Value}(hR:Row base O w q cells) (ho:q.o=0) (hs:sub cells 0 2=some [v1,v2]) :
  2<=q.m/\(∃ u,w.cell? ⟨q.c,0,none⟩=some u/\H5 O v1 u)/\∃ u,w.cell? ⟨q.c,1,none⟩=some u/\H5 O v2 u:=by
 obtain ⟨arr,e,lo,hi,a1,a0,a2,a3,a4,a5⟩:=hR;obtain ⟨s1,s2⟩:=sub_eq hs;have g0:cells[0]? =some v1:=by
  have:=congrArg (fun l:List Value=>l[0]?) s2
  simpa using this.symm
 have g1:cells[1]? =some v2:=by
  have:=congrArg (fun l:List Value=>l[1]?) s2
  simpa using this.symm
 obtain ⟨u1,b1,b2⟩:=a5 0 v1 g0;obtain ⟨u2,b3,b4⟩:=a5 1 v2 g1;rw [ho] at b1 b3 a2;exact ⟨om,⟨u1,by rw [GB a1];exact b1,b2⟩,u2,by rw [GB a1];exact b3,b4⟩
theorem um {vs:List Value}{Z:St}{r:CR}(h:ckF vs Z=some r):Adv Z r.Z/\∀ O w vs' N,Rel base O Z w->Ax O Z.n N->r.Z.n<=N->Am O G->D8 O vs vs'->Az Tryz.prog base O 110 vs' Z w r:=by
 unfold ckF at h;split at h
 ·rename_i b;obtain ⟨t,g1,h1⟩:=A4 h;clear h;obtain ⟨g2,h2⟩:=H2 h1;clear h1;obtain rfl:=Nat.eq_of_beq_eq_true g2;obtain ⟨cs,g3,h⟩:=A4 h2;clear h2;obtain ⟨B,hB,EV⟩:=R4 g3;split at h
  ·rename_i v2;obtain ⟨Z',g4,h⟩:=A4 h;cases h;refine ⟨.write g4,fun O w vs' N hR hF hN hG hv=>?_⟩;cases hv with
   | cons hp hv =>
   cases hv;cases hp with
   | H9 hs=>simp [H9] at hs
   | @ptr _ _ q hq =>
   obtain ⟨ho,arr,f,ha⟩:=hR.typ hq ⟨B,(W2 hB).1⟩ g1;have Fc:=hR.row b q B hq hB;obtain ⟨h2,⟨u,hu,hur⟩,_⟩:=LA Fc ho EV;have hun:u= .pointer none:=by cases hur with|H9 hs=>rfl
   subst hun;obtain ⟨w1,w2,w3⟩:=hR.write hq g4 (vs':=[.pointer (some ⟨q.c,0,none⟩)]) (.cons (by have:=H5.ptr (off:=0) hq;rwa [ho] at this) .nil) (by simp [K9]);obtain ⟨yq,e,lo,hi,a1,a0,a2,a3,a4,a5⟩:=Fc;rw [ha] at a1;cases a1;obtain ⟨B',cs',hr1,AM6,_⟩:=Gm g4;rw [hB] at hr1;cases hr1;have hfz:=a3 (hR.own b q B hq (W2 hB).1 AM6);have hfr:w.frozen? ⟨q.c,0,none⟩=false:=by
    simp only [World.frozen?,ha];rcases hfz with hh|hh
    ·simp;omega
    ·simp;omega
   have he:IX w q.c (q.o+0) [.pointer (some ⟨q.c,0,none⟩)]=w.setCell ⟨q.c,0,none⟩ (.pointer (some ⟨q.c,0,none⟩)):=by rw [ho];rfl
   rw [he] at w2 w3;have hc:=Ua q.c q.m w hu (by simp [World.shape?,ha,a0]) h2 hfr;rw [show q.o+0=0 from by omega];exact HY Tryz.func110 (by kernel_rfl) rfl hc w2 w3 (.tuple .nil)
  ·rename_i c v2;obtain ⟨g4,h⟩:=H2 h;cases h;obtain rfl:=Nat.eq_of_beq_eq_true g4;refine ⟨.refl _,fun O w vs' N hR hF hN hG hv=>?_⟩;cases hv with
   | cons hp hv =>
   cases hv;cases hp with
   | H9 hs=>simp [H9] at hs
   | @ptr _ _ q hq =>
   obtain ⟨ho,arr,f,ha⟩:=hR.typ hq ⟨B,(W2 hB).1⟩ g1;obtain ⟨h2,⟨u,hu,hur⟩,_⟩:=LA (hR.row _ q B hq hB) ho EV;cases hur with
   | H9 hs=>simp [H9] at hs
   | @ptr _ _ q' hq' =>
   rw [hq] at hq';cases hq';rw [show q.o+0=0 from by omega] at hu ⊢;exact HY Tryz.func110 (by kernel_rfl) rfl (Ww q.c w hu) hR (.refl _ _ _) (.tuple .nil)
  ·cases h
 ·cases h
theorem cA:∀ {cs:List Value}{l:List UInt8},Ki cs=some l->cs.length=l.length/\∀ (j:Nat) (x:UInt8),l[j]? =some x->cs[j]? =some (Value.int .u8 x.toNat):=by
 intro cs;induction cs with
 | nil=>intro l h;cases h;exact ⟨rfl,fun j x h=>by simp at h⟩
 | cons v cs ih =>
   intro l h;obtain ⟨b,h1,h⟩:=A4 (show ob (TQ v) (fun b=>ob (Ki cs) fun bs=>some (b::bs))=some l from h);obtain ⟨bs,h2,h⟩:=A4 h;cases h;obtain ⟨e1,e2⟩:=ih h2;refine ⟨by simp [e1],fun j x hj=>?_⟩;cases j with
   | zero =>
     simp at hj;subst hj;unfold TQ at h1;split at h1
     ·rename_i n;obtain ⟨h3,h4⟩:=H2 h1;cases h4;rw [Nat.blt_eq] at h3;show some (Value.int .u8 (n:Nat))=some (Value.int .u8 ((UInt8.ofNat n).toNat:Nat));rw [show (UInt8.ofNat n).toNat=n from by simp [UInt8.toNat_ofNat'];omega]
     ·cases h1
   | succ j=>simpa using e2 j x (by simpa using hj)
theorem ou {vs:List Value}{Z:St}{r:CR}(h:lS vs Z=some r):Adv Z r.Z/\∀ O w vs' N,Rel base O Z w->Ax O Z.n N->r.Z.n<=N->Am O G->D8 O vs vs'->Az Tryz.prog base O 68 vs' Z w r:=by
 unfold lS at h;split at h
 ·rename_i b;obtain ⟨t,g1,h1⟩:=A4 h;clear h;obtain ⟨g2,h2⟩:=H2 h1;clear h1;obtain rfl:=Nat.eq_of_beq_eq_true g2;obtain ⟨cs,g3,h⟩:=A4 h2;clear h2;obtain ⟨B,hB,EV⟩:=R4 g3;split at h
  ·rename_i v1 g sp n k;obtain ⟨t,g4,h1⟩:=A4 h;clear h;obtain ⟨g5,h2⟩:=H2 h1;clear h1;obtain rfl:=Nat.eq_of_beq_eq_true g5;obtain ⟨g6,h3⟩:=H2 h2;obtain ⟨g7,h4⟩:=H2 h3;obtain ⟨cs,g8,h5⟩:=A4 h4;obtain ⟨l,g9,h6⟩:=A4 h5;obtain ⟨Z',g10,h7⟩:=A4 h6;cases h7;clear h2 h3 h4 h5 h6;have e6:=Nat.le_of_ble_eq_true g6;have e7:=Nat.le_of_ble_eq_true g7;unfold room at e7;obtain ⟨Bg,hBg,zW⟩:=R4 g8;refine ⟨.kill g10,fun O w vs' N hR hF hN hG hv=>?_⟩;cases hv with
   | cons hp hv =>
   cases hv;cases hp with
   | H9 hs=>simp [H9] at hs
   | @ptr _ _ q hq =>
   obtain ⟨ho,arr,f,ha⟩:=hR.typ hq ⟨B,(W2 hB).1⟩ g1;obtain ⟨h2,_,u,hu,hur⟩:=LA (hR.row b q B hq hB) ho EV;have fin:∀ (qg:V9) (k':Nat),O g=some qg->u= .slice (some ⟨qg.c,qg.o,none⟩) (n+1) k'->n+1<=k'->Az Tryz.prog base O 68 [.pointer (some ⟨q.c,q.o+0,none⟩)] Z w ⟨false,.string ⟨l.toArray⟩,Z'⟩:=by
    intro qg k' hqg hue hk;subst hue;obtain ⟨hog,AM7,fg,hag⟩:=hR.typ hqg ⟨Bg,(W2 hBg).1⟩ g4;obtain ⟨yq,e,lo,hi,a1,a0,a2,a3,a4,a5⟩:=hR.row g qg Bg hqg hBg;rw [hag] at a1;cases a1;obtain ⟨s1,s2⟩:=sub_eq zW;have hlen:cs.length=n+1:=by rw [s2];simp;omega
    obtain ⟨u1,u2⟩:=cA g9;have hll:l.length=n+1:=om;have UC:∀ j x,l[j]? =some x->w.cell? ((⟨qg.c,0,none⟩:Addr).add j)=some (.int .u8 x.toNat):=by
     intro j x hj;have b1:=u2 j x hj;have hjn:j<n+1:=by have:=(List.getElem?_eq_some_iff.1 hj).1;omega
     rw [s2,List.getElem?_take_of_lt hjn,List.getElem?_drop,Nat.zero_add] at b1;obtain ⟨v',c1,c2⟩:=a5 j _ b1;rw [hog,Nat.zero_add] at c1;rw [o7,GB hag,Nat.zero_add,c1];cases c2 with
     | H9 _=>rfl
    have hc:=Wx q.c qg.c k' AM7.size l w (by rw [hll,<- hog];exact hu) om (by simp [World.shape?,hag]) (by intro he;rw [he] at hll;simp at hll) om om UC;have hfr:∀ c,c≠qg.c->(w.drew.freeze ⟨qg.c,0,none⟩ l.length).heap[c]? =w.heap[c]? :=by
     intro c hne;unfold World.freeze;split
     ·rfl
     ·show (w.heap.modify qg.c _)[c]? =_;rw [Array.getElem?_modify,if_neg (fun h=>hne h.symm)]
    obtain ⟨w2,w3⟩:=hR.tB hqg g10 (w':=w.drew.freeze ⟨qg.c,0,none⟩ l.length) (by unfold World.freeze;split <;> simp) hfr (by unfold World.freeze;split <;> exact ⟨rfl,rfl,rfl⟩);rw [show q.o+0=0 from by omega];exact HY Tryz.func68 (by kernel_rfl) rfl hc w2 w3 (.H9 rfl)
   cases hur with
   | slice hq'=>exact fin _ _ hq' rfl e6
   | grow hq' hk' hm'=>exact fin _ _ hq' rfl (Nat.le_trans e6 hk')
   | H9 hs=>simp [H9] at hs
  ·cases h
 ·cases h
end
end Go.Proofs.T
namespace Go.Proofs.T
open Go Go.Ab Go.RowKit
theorem ov {base:Env}{G:Nat}{vs:List Value}{Z:St}{r:CR}(h:YT vs Z=some r):Adv Z r.Z/\∀ O w vs' N,Rel base O Z w->Ax O Z.n N->r.Z.n<=N->Am O G->D8 O vs vs'->Az Tryz.prog base O 66 vs' Z w r :=
 fh (g:=66) Tryz.func66 (by kernel_rfl) rfl
  (fun bk o c xs sep w h1 h2 h3 h4 h5=>Any.strings_Join Tryz.Xp Tryz.qG bk o c xs sep w h1 h2 h3 h4 h5)
  (fun a c sep w=>Any.strings_Join_none Tryz.Xp Tryz.qG a c sep w) h
noncomputable def CS:CZ:=fun g=>if g=38 then some MM else if g=66 then some (.plain YT) else if g=68 then some (.plain lS) else if g=110 then some (.plain ckF) else none
theorem ye {base:Env}{G:Nat}(hG:codeOk Tryz.prog 7 G parts.1=true/\codeOk Tryz.prog 7 G parts.2.2.1=true/\codeOk Tryz.prog 7 G parts.2.2.2=true):Gn Tryz.prog base G CS:=by
 intro g s hs run hE vs Z r h;unfold CS at hs;split at hs
 ·rename_i hg;subst hg;cases hs;exact Vm hG hE h
 ·split at hs
  ·rename_i hg;subst hg;cases hs;exact ov h
  ·split at hs
   ·rename_i hg;subst hg;cases hs;exact ou h
   ·split at hs
    ·rename_i hg;subst hg;cases hs;exact um h
    ·cases hs
end Go.Proofs.T
namespace Go.Proofs.T
open Go Go.Ab Go.RowKit
noncomputable def CA (c:UInt8) (l:List UInt8):Int:=List.rec (motive:=fun _=>Int) (-1) (fun b _ ih=>bi (Nat.beq b.toNat c.toNat) 0 (bi (ilt ih 0) (-1) (ih+1))) l
noncomputable def Dg (c:UInt8) (l:List UInt8):Nat:=List.rec (motive:=fun _=>Nat) 0 (fun b _ ih=>bi (Nat.beq b.toNat c.toNat) (ih+1) ih) l
theorem KP (a b:UInt8):Nat.beq a.toNat b.toNat=(a==b):=by
 rw [Bool.eq_iff_iff];constructor
 ·intro h;rw [UInt8.toNat.inj (Nat.eq_of_beq_eq_true h)];simp
 ·intro h;rw [eq_of_beq h];exact Nat.beq_refl _
theorem mg (c:UInt8):∀ l:List UInt8,CA c l=Lib.indexByte l c:=by
 intro l;induction l with
 | nil=>rfl
 | cons b l ih =>
   show bi (Nat.beq b.toNat c.toNat) 0 (bi (ilt (CA c l) 0) (-1) (CA c l+1))=_;rw [ih,KP];rw [show Lib.indexByte (b::l) c=if (b==c)=true then 0 else if (Lib.indexByte l c== -1)=true then -1 else Lib.indexByte l c+1 from rfl];have hge:=Lib.indexByte_ge l c;generalize Lib.indexByte l c=z at hge ⊢;cases hb:(b==c) with
   | true=>rfl
   | false =>
     rw [o9,if_neg (by simp),Gf];by_cases h:z= -1
     ·subst h;rfl
     ·rw [decide_eq_false om,o9,if_neg (by simpa using h)]
theorem mh (c:UInt8):∀ l:List UInt8,Dg c l=Lib.countByte l c:=by
 intro l;induction l with
 | nil=>rfl
 | cons b l ih =>
   show bi (Nat.beq b.toNat c.toNat) (Dg c l+1) (Dg c l)=_;rw [ih,KP];unfold Lib.countByte;rw [List.count_cons];cases hb:(b==c) <;> simp
def VG (n:Int):UInt8:=n.toNat.toUInt8
noncomputable def yZ (vs:List Value) (Z:St):Option CR:=match vs with
 | [.string s,.int .u8 n]=>some ⟨false,.int .i64 (CA (VG n) s.data.toList),Z⟩
 | _=>none
noncomputable def yd (vs:List Value) (Z:St):Option CR:=match vs with
 | [.string s,.int .u8 n]=>some ⟨false,.int .i64 (Dg (VG n) s.data.toList:Nat),Z⟩
 | _=>none
section
variable {base:Env} {G:Nat}
theorem ft {g:Nat}{fn:Func}(hf:Tryz.prog.funcs[g]? =some fn) (hn:(fn.name== "runtime.NumGoroutine")=false){F:ByteArray->Int->Int}
  (Dl:∀ s n w,(callFunc g #[.string s,.int .u8 n]).run Tryz.prog w= .ok (.value (.int .i64 (F s n))) w) {vs:List Value} {Z:St} {r:CR}
  (h:(match vs with|[.string s,.int .u8 n]=>some ⟨false,.int .i64 (F s n),Z⟩|_=>none)=some r):Adv Z r.Z/\∀ O w vs' N,Rel base O Z w->Ax O Z.n N->r.Z.n<=N->Am O G->D8 O vs vs'->Az Tryz.prog base O g vs' Z w r:=by
 split at h
 ·rename_i s n;cases h;refine ⟨.refl _,fun O w vs' N hR hF hN hG hv=>?_⟩;cases hv with
  | cons h1 hv =>
  cases hv with
  | cons h2 hv =>
  cases hv;cases h1;cases h2;exact ⟨fn,hf,hn,.inr ⟨_,Dl s n w,rfl,rfl,.H9 rfl⟩⟩
 ·cases h
theorem mi {vs:List Value}{Z:St}{r:CR}(h:yZ vs Z=some r):Adv Z r.Z/\∀ O w vs' N,Rel base O Z w->Ax O Z.n N->r.Z.n<=N->Am O G->D8 O vs vs'->Az Tryz.prog base O 231 vs' Z w r :=
 ft (F:=fun s n=>CA (VG n) s.data.toList) Tryz.func231 (by kernel_rfl) (fun s n w=>by
  rw [run_callFunc_extern Tryz.func231 (by kernel_rfl) (by kernel_rfl) (by kernel_rfl) (e:=Extern.BytealgIndexByte.indexByte) (by kernel_rfl),Lib.run_indexByteString,mg];rfl) h
theorem mj {vs:List Value}{Z:St}{r:CR}(h:yd vs Z=some r):Adv Z r.Z/\∀ O w vs' N,Rel base O Z w->Ax O Z.n N->r.Z.n<=N->Am O G->D8 O vs vs'->Az Tryz.prog base O 201 vs' Z w r :=
 ft (F:=fun s n=>(Dg (VG n) s.data.toList:Nat)) Tryz.func201 (by kernel_rfl) (fun s n w=>by
  rw [run_callFunc_extern Tryz.func201 (by kernel_rfl) (by kernel_rfl) (by kernel_rfl) (e:=Extern.BytealgCount.count) (by kernel_rfl),Lib.run_countString,mh];rfl) h
end
noncomputable def CS1:CZ:=fun g=>if g=231 then some (.plain yZ) else if g=201 then some (.plain yd) else CS g
theorem qQ {base:Env}{G:Nat}(hG:codeOk Tryz.prog 7 G parts.1=true/\codeOk Tryz.prog 7 G parts.2.2.1=true/\codeOk Tryz.prog 7 G parts.2.2.2=true):Gn Tryz.prog base G CS1:=by
 intro g s hs run hE vs Z r h;unfold CS1 at hs;split at hs
 ·rename_i hg;subst hg;cases hs;exact mi h
 ·split at hs
  ·rename_i hg;subst hg;cases hs;exact mj h
  ·exact ye hG g s hs run hE vs Z r h
end Go.Proofs.T
