/- YB on the types of the Fb. -/
import Derived.Test.YtbcanmagihejhaaGreatDoorAbD
import Derived.Test.YtbcanmagihejhaaGreatDoorProg
import Derived.Shelf.Strings.OnBuilder
import Derived.Lib.Bytealg
set_option linter.unusedSimpArgs false
set_option linter.unusedVariables false
set_option linter.defProp false
set_option maxHeartbeats 32000000
set_option maxRecDepth 100000
namespace Go.Proofs.T
open Go Go.Ab
section
variable {z:List Value}{ps:List (Nat×Value)}
section
abbrev LDo (t:Nat):Prop:=∀ {fr:Fr}{Z:St}{a:Operand},Hs Tryz.prog fr Z t a=ob (ev fr a) fun v=>ob (at? v) fun p=>pr p fun b off=>ob (ob (Z.read b off 1) KX) fun v=>some (v,⟨b,off,1⟩)
abbrev LDn (t n:Nat):Prop:=∀ {fr:Fr}{Z:St}{a:Operand},Hs Tryz.prog fr Z t a=ob (ev fr a) fun v=>ob (at? v) fun p=>pr p fun b off=>ob (ob (Z.read b off n) fun cs=>some (.agg ⟨cs⟩)) fun v=>some (v,⟨b,off,n⟩)
abbrev LVo (t:Nat):Prop:=∀ {Z:St}{b off:Nat},Od Tryz.prog Z t (.pointer (some ⟨b,off,none⟩))=ob (Z.read b off 1) KX
abbrev LVn (t n:Nat):Prop:=∀ {Z:St}{b off:Nat},Od Tryz.prog Z t (.pointer (some ⟨b,off,none⟩))=ob (Z.read b off n) fun cs=>some (.agg ⟨cs⟩)
abbrev STn (t n:Nat):Prop:=∀ {fr:Fr}{Z:St}{a v:Operand},Gi Tryz.prog fr Z t a v=ob (ev fr a) fun a=>ob (ev fr v) fun v=>ob (ob (at? a) fun p=>pr p fun b off=>bi (El v) none (bb ((M6 v).length.beq n) (Z.write b off (M6 v)))) fun Z=>some (R7,Z)
abbrev FAo (t k:Nat):Prop:=∀ {fr:Fr}{x:Operand},AW Tryz.prog fr t x k=ob (ev fr x) fun v=>ob (at? v) fun p=>pr p fun b off=>some (.pointer (some ⟨b,off,none⟩))
abbrev FAn (t k n:Nat):Prop:=∀ {fr:Fr}{x:Operand},AW Tryz.prog fr t x k=ob (ev fr x) fun v=>ob (at? v) fun p=>pr p fun b off=>some (.pointer (some ⟨b,off+n,none⟩))
abbrev FIo (t k o:Nat):Prop:=∀ {fr:Fr}{x:Operand},Fv Tryz.prog fr t x k=ob (ev fr x) fun v=>ob (jZ v) fun cs=>ob (sub cs o 1) KX
abbrev FIn (t k o n:Nat):Prop:=∀ {fr:Fr}{x:Operand},Fv Tryz.prog fr t x k=ob (ev fr x) fun v=>ob (jZ v) fun cs=>ob (sub cs o n) fun cs=>some (.agg ⟨cs⟩)
abbrev IAs (t w:Nat):Prop:=∀ {b off len cap i:Nat}{s:Option Nat},Ih Tryz.prog t (.slice (some ⟨b,off,s⟩) len cap) i=bb (Nat.blt i len) (some (.pointer (some ⟨b,off+i*w,none⟩)))
abbrev APn (t w m e:Nat):Prop:=∀ {Z:St}{b:Option Addr}{len cap:Nat}{w':Value},CO Tryz.prog Z t (.slice b len cap) w'=ob (AJ Z w w') fun p=>pr p fun n new=>bi (Nat.ble (len+n) cap) (CU Z w b len cap n new) (bb (Nat.ble ((len+n)*m) room) (BP e Z w b len n new))
abbrev SSn (t w:Nat):Prop:=∀ {b:Option Addr}{len cap:Nat}{lo hi:Option Value},VL Tryz.prog t (.slice b len cap) lo hi=ob (au len cap lo hi) fun p=>pr p fun lo hi=>sliceAt w b lo hi cap
abbrev SLn (t w:Nat) (z:List Value):Prop:=∀ {fr:Fr}{len:Nat}{parts:Array (Nat×Operand)},GW Tryz.prog fr t len parts=ob (evs fr (parts.toList.map (·.2))) fun vs=>bb (Nat.ble (len*w) 16777216) (ob (Bl (fun i=>some (i*w,w)) ((parts.toList.map (·.1)).zip vs) (rep z len)) fun l=>some (l,fun n=> .slice (some ⟨n,0,none⟩) len len))
abbrev MKn (t m:Nat) (z:List Value):Prop:=∀ {fr:Fr}{l c:Operand},Pv Tryz.prog fr t l c=ob (evN fr l) fun l=>ob (evN fr c) fun c=>bb (Nat.ble l c) (bb (Nat.ble (c*m) room) (some (rep z c,fun n=> .slice (some ⟨n,0,none⟩) l c)))
abbrev BVn (t w n:Nat):Prop:=∀ {z:List Value}{ps:List (Nat×Value)},Bm Tryz.prog t z ps=ob (Bl (fun i=>some (i*w,n)) ps z) fun l=>some (.agg ⟨l⟩)
end
section
variable {fr:Fr}{Z:St}{x ix a v:Operand}{ve:Value}
def ld3:LDo 3:=by unfold LDo;intros;kernel_rfl
def st3:STn 3 1:=by unfold STn;intros;kernel_rfl
def al3:AR Tryz.prog 3=some ([.int .i64 0],ptrTo):=kR
def ld4:LDo 4:=by unfold LDo;intros;kernel_rfl
def st4:STn 4 1:=by unfold STn;intros;kernel_rfl
def ld5:LDo 5:=by unfold LDo;intros;kernel_rfl
def ld9:LDo 9:=by unfold LDo;intros;kernel_rfl
def st9:STn 9 1:=by unfold STn;intros;kernel_rfl
def BG5:LDo 22:=by unfold LDo;intros;kernel_rfl
def BG6:STn 22 1:=by unfold STn;intros;kernel_rfl
def BK9:AR Tryz.prog 22=some ([.slice none 0 0],ptrTo):=kR
def BL0:IAs 22 1:=by unfold IAs;intros;kernel_rfl
def P2:APn 22 1 9 3:=by unfold APn;intros;kernel_rfl
def BL1:SSn 22 1:=by unfold SSn;intros;kernel_rfl
def BG7:SLn 22 1 [.int .i64 0]:=by unfold SLn;intros;kernel_rfl
def BG8:MKn 22 9 [.int .i64 0]:=by unfold MKn;intros;kernel_rfl
def BG9:LDo 28:=by unfold LDo;intros;kernel_rfl
def BH0:STn 28 1:=by unfold STn;intros;kernel_rfl
def BL2:IAs 28 2:=by unfold IAs;intros;kernel_rfl
def R5:APn 28 2 17 78:=by unfold APn;intros;kernel_rfl
def BH1:SLn 28 2 [.int .i64 0,.int .i64 0]:=by unfold SLn;intros;kernel_rfl
def BH2:LDo 29:=by unfold LDo;intros;kernel_rfl
def BH3:STn 29 1:=by unfold STn;intros;kernel_rfl
def BL3:IAs 29 5:=by unfold IAs;intros;kernel_rfl
def R6:APn 29 5 49 80:=by unfold APn;intros;kernel_rfl
def BH4:SLn 29 5 [str [],.int .i64 0,.int .i64 0,.int .i64 0,.bool false]:=by unfold SLn;intros;kernel_rfl
def BH5:LDo 30:=by unfold LDo;intros;kernel_rfl
def BH6:STn 30 1:=by unfold STn;intros;kernel_rfl
def BL4:IAs 30 3:=by unfold IAs;intros;kernel_rfl
def R1:APn 30 3 41 82:=by unfold APn;intros;kernel_rfl
def BH7:SLn 30 3 [str [],str [],.int .i64 0]:=by unfold SLn;intros;kernel_rfl
def BH8:LDn 32 2:=by unfold LDn;intros;kernel_rfl
def BL5:LVn 32 2:=by unfold LVn;intros;kernel_rfl
def BH9:STn 32 2:=by unfold STn;intros;kernel_rfl
def BL6:AR Tryz.prog 32=some ([.int .i64 0,.int .i64 0],ptrTo):=kR
def BL7:Ad Tryz.prog 32=some (.agg ⟨[.int .i64 0,.int .i64 0]⟩):=kR
def BL8:Bm Tryz.prog 32 z ps=ob (Bl (fun i=>[(0,1),(1,1)][i]?) ps z) fun l=>some (.agg ⟨l⟩):=kR
def AV9:FAo 32 0:=by unfold FAo;intros;kernel_rfl
def AW0:FAn 32 1 1:=by unfold FAn;intros;kernel_rfl
def BI0:LDo 33:=by unfold LDo;intros;kernel_rfl
def BI1:STn 33 1:=by unfold STn;intros;kernel_rfl
def BL9:IAs 33 5:=by unfold IAs;intros;kernel_rfl
def K6:APn 33 5 73 35:=by unfold APn;intros;kernel_rfl
def BI2:SLn 33 5 [str [],.int .i64 0,.int .i64 0,str [],.slice none 0 0]:=by unfold SLn;intros;kernel_rfl
def BI3:LDn 35 5:=by unfold LDn;intros;kernel_rfl
def BM0:LVn 35 5:=by unfold LVn;intros;kernel_rfl
def BI4:STn 35 5:=by unfold STn;intros;kernel_rfl
def BM1:AR Tryz.prog 35=some ([str [],.int .i64 0,.int .i64 0,str [],.slice none 0 0],ptrTo):=kR
def BM2:Ad Tryz.prog 35=some (.agg ⟨[str [],.int .i64 0,.int .i64 0,str [],.slice none 0 0]⟩):=kR
def BM3:Bm Tryz.prog 35 z ps=ob (Bl (fun i=>[(0,1),(1,2),(3,1),(4,1)][i]?) ps z) fun l=>some (.agg ⟨l⟩):=kR
def AW1:FAo 35 0:=by unfold FAo;intros;kernel_rfl
def AW2:FAn 35 1 1:=by unfold FAn;intros;kernel_rfl
def AW3:FAn 35 2 3:=by unfold FAn;intros;kernel_rfl
def AW4:FAn 35 3 4:=by unfold FAn;intros;kernel_rfl
def BI5:LDo 36:=by unfold LDo;intros;kernel_rfl
def BI6:STn 36 1:=by unfold STn;intros;kernel_rfl
def BM4:IAs 36 1:=by unfold IAs;intros;kernel_rfl
def R2:APn 36 1 17 9:=by unfold APn;intros;kernel_rfl
def BM5:SSn 36 1:=by unfold SSn;intros;kernel_rfl
def BI7:SLn 36 1 [str []]:=by unfold SLn;intros;kernel_rfl
def BI8:MKn 36 17 [str []]:=by unfold MKn;intros;kernel_rfl
def BI9:LDo 37:=by unfold LDo;intros;kernel_rfl
def BJ0:STn 37 1:=by unfold STn;intros;kernel_rfl
def BM6:IAs 37 1:=by unfold IAs;intros;kernel_rfl
def P5:APn 37 1 25 22:=by unfold APn;intros;kernel_rfl
def BJ1:SLn 37 1 [.slice none 0 0]:=by unfold SLn;intros;kernel_rfl
def BJ2:LDn 39 5:=by unfold LDn;intros;kernel_rfl
def BJ3:STn 39 5:=by unfold STn;intros;kernel_rfl
def BM7:AR Tryz.prog 39=some ([.int .i64 0,.int .i64 0,.int .i64 0,.int .i64 0,.int .i64 0],ptrTo):=kR
def AW5:FAo 39 0:=by unfold FAo;intros;kernel_rfl
def AW6:FAn 39 1 1:=by unfold FAn;intros;kernel_rfl
def AW7:FAn 39 2 2:=by unfold FAn;intros;kernel_rfl
def AW8:FAn 39 3 3:=by unfold FAn;intros;kernel_rfl
def AW9:FAn 39 4 4:=by unfold FAn;intros;kernel_rfl
def BJ4:LDn 41 20:=by unfold LDn;intros;kernel_rfl
def BM8:LVn 41 20:=by unfold LVn;intros;kernel_rfl
def BJ5:STn 41 20:=by unfold STn;intros;kernel_rfl
def BM9:AR Tryz.prog 41=some ([str [],.slice none 0 0,.slice none 0 0,.slice none 0 0,.int .i64 0,.int .i64 0,str [],.int .i64 0,.int .i64 0,str [],.slice none 0 0,.slice none 0 0,.int .i64 0,.slice none 0 0,.int .i64 0,.int .i64 0,.int .i64 0,.int .i64 0,.int .i64 0,.int .i64 0],ptrTo):=kR
def BN0:Ad Tryz.prog 41=some (.agg ⟨[str [],.slice none 0 0,.slice none 0 0,.slice none 0 0,.int .i64 0,.int .i64 0,str [],.int .i64 0,.int .i64 0,str [],.slice none 0 0,.slice none 0 0,.int .i64 0,.slice none 0 0,.int .i64 0,.int .i64 0,.int .i64 0,.int .i64 0,.int .i64 0,.int .i64 0]⟩):=kR
def BN1:Bm Tryz.prog 41 z ps=ob (Bl (fun i=>[(0,1),(1,1),(2,1),(3,1),(4,1),(5,1),(6,5),(11,1),(12,1),(13,1),(14,1),(15,5)][i]?) ps z) fun l=>some (.agg ⟨l⟩):=kR
def AX0:FAo 41 0:=by unfold FAo;intros;kernel_rfl
def AX1:FAn 41 1 1:=by unfold FAn;intros;kernel_rfl
def AX2:FAn 41 2 2:=by unfold FAn;intros;kernel_rfl
def AX3:FAn 41 3 3:=by unfold FAn;intros;kernel_rfl
def AX4:FAn 41 4 4:=by unfold FAn;intros;kernel_rfl
def AX5:FAn 41 5 5:=by unfold FAn;intros;kernel_rfl
def AX6:FAn 41 6 6:=by unfold FAn;intros;kernel_rfl
def AX7:FAn 41 7 11:=by unfold FAn;intros;kernel_rfl
def AX8:FAn 41 8 12:=by unfold FAn;intros;kernel_rfl
def AX9:FAn 41 9 13:=by unfold FAn;intros;kernel_rfl
def zB:FAn 41 10 14:=by unfold FAn;intros;kernel_rfl
def zC:FAn 41 11 15:=by unfold FAn;intros;kernel_rfl
def BJ6:LDo 43:=by unfold LDo;intros;kernel_rfl
def BJ7:STn 43 1:=by unfold STn;intros;kernel_rfl
def BN2:IAs 43 1:=by unfold IAs;intros;kernel_rfl
def K4:APn 43 1 2 5:=by unfold APn;intros;kernel_rfl
def BJ8:SLn 43 1 [.int .u8 0]:=by unfold SLn;intros;kernel_rfl
def BJ9:LDo 47:=by unfold LDo;intros;kernel_rfl
def BK0:LDn 78 2:=by unfold LDn;intros;kernel_rfl
def BK1:STn 78 2:=by unfold STn;intros;kernel_rfl
def BN3:AR Tryz.prog 78=some ([.int .i64 0,.int .i64 0],ptrTo):=kR
def BN4:Ad Tryz.prog 78=some (.agg ⟨[.int .i64 0,.int .i64 0]⟩):=kR
def BN5:Bm Tryz.prog 78 z ps=ob (Bl (fun i=>[(0,1),(1,1)][i]?) ps z) fun l=>some (.agg ⟨l⟩):=kR
def AY0:FAo 78 0:=by unfold FAo;intros;kernel_rfl
def AY1:FAn 78 1 1:=by unfold FAn;intros;kernel_rfl
def BK2:LDn 80 5:=by unfold LDn;intros;kernel_rfl
def BK3:STn 80 5:=by unfold STn;intros;kernel_rfl
def BN6:AR Tryz.prog 80=some ([str [],.int .i64 0,.int .i64 0,.int .i64 0,.bool false],ptrTo):=kR
def BN7:Ad Tryz.prog 80=some (.agg ⟨[str [],.int .i64 0,.int .i64 0,.int .i64 0,.bool false]⟩):=kR
def BN8:Bm Tryz.prog 80 z ps=ob (Bl (fun i=>[(0,1),(1,1),(2,1),(3,1),(4,1)][i]?) ps z) fun l=>some (.agg ⟨l⟩):=kR
def AY2:FAo 80 0:=by unfold FAo;intros;kernel_rfl
def AY3:FAn 80 1 1:=by unfold FAn;intros;kernel_rfl
def AY4:FAn 80 2 2:=by unfold FAn;intros;kernel_rfl
def AY5:FAn 80 3 3:=by unfold FAn;intros;kernel_rfl
def AY6:FAn 80 4 4:=by unfold FAn;intros;kernel_rfl
def BK4:LDn 82 3:=by unfold LDn;intros;kernel_rfl
def BK5:STn 82 3:=by unfold STn;intros;kernel_rfl
def BN9:AR Tryz.prog 82=some ([str [],str [],.int .i64 0],ptrTo):=kR
def BO0:Ad Tryz.prog 82=some (.agg ⟨[str [],str [],.int .i64 0]⟩):=kR
def BO1:Bm Tryz.prog 82 z ps=ob (Bl (fun i=>[(0,1),(1,1),(2,1)][i]?) ps z) fun l=>some (.agg ⟨l⟩):=kR
def AY7:FAo 82 0:=by unfold FAo;intros;kernel_rfl
def AY8:FAn 82 1 1:=by unfold FAn;intros;kernel_rfl
def AY9:FAn 82 2 2:=by unfold FAn;intros;kernel_rfl
def BO2:LVn 86 2:=by unfold LVn;intros;kernel_rfl
def BK6:STn 86 2:=by unfold STn;intros;kernel_rfl
def BO3:AR Tryz.prog 86=some ([.int .i64 0,.int .i64 0],ptrTo):=kR
def BO4:Ad Tryz.prog 86=some (.agg ⟨[.int .i64 0,.int .i64 0]⟩):=kR
def BO5:Bm Tryz.prog 86 z ps=ob (Bl (fun i=>[(0,1),(1,1)][i]?) ps z) fun l=>some (.agg ⟨l⟩):=kR
def AZ0:FAo 86 0:=by unfold FAo;intros;kernel_rfl
def AZ1:FAn 86 1 1:=by unfold FAn;intros;kernel_rfl
def BK7:LDo 97:=by unfold LDo;intros;kernel_rfl
def BO6:IAs 97 2:=by unfold IAs;intros;kernel_rfl
def K5:APn 97 2 25 138:=by unfold APn;intros;kernel_rfl
def BK8:SLn 97 2 [str [],.int .i64 0]:=by unfold SLn;intros;kernel_rfl
def Ap7:LDo 101:=by unfold LDo;intros;kernel_rfl
def Ar0:AR Tryz.prog 116=some ([.pointer none,.slice none 0 0],ptrTo):=kR
def zD:FAn 116 1 1:=by unfold FAn;intros;kernel_rfl
def Ap8:LDo 131:=by unfold LDo;intros;kernel_rfl
def Ar1:Ad Tryz.prog 133=some (.agg ⟨[.slice none 0 0,.int .i64 0]⟩):=kR
def Ar2:Bm Tryz.prog 133 z ps=ob (Bl (fun i=>[(0,1),(1,1)][i]?) ps z) fun l=>some (.agg ⟨l⟩):=kR
def zE:FAo 133 0:=by unfold FAo;intros;kernel_rfl
def zF:FAn 133 1 1:=by unfold FAn;intros;kernel_rfl
def Ap9:LDo 134:=by unfold LDo;intros;kernel_rfl
def Ar3:Ad Tryz.prog 136=some (.agg ⟨[.slice none 0 0,.int .i64 0,str [],.int .i64 0,.pointer none]⟩):=kR
def Ar4:Bm Tryz.prog 136 z ps=ob (Bl (fun i=>[(0,2),(2,1),(3,1),(4,1)][i]?) ps z) fun l=>some (.agg ⟨l⟩):=kR
def zG:FAo 136 0:=by unfold FAo;intros;kernel_rfl
def zH:FAn 136 1 2:=by unfold FAn;intros;kernel_rfl
def zI:FAn 136 2 3:=by unfold FAn;intros;kernel_rfl
def zJ:FAn 136 3 4:=by unfold FAn;intros;kernel_rfl
def Aq0:LDn 138 2:=by unfold LDn;intros;kernel_rfl
def Ar5:LVn 138 2:=by unfold LVn;intros;kernel_rfl
def Aq1:STn 138 2:=by unfold STn;intros;kernel_rfl
def Ar6:AR Tryz.prog 138=some ([str [],.int .i64 0],ptrTo):=kR
def Ar7:Ad Tryz.prog 138=some (.agg ⟨[str [],.int .i64 0]⟩):=kR
def Ar8:Bm Tryz.prog 138 z ps=ob (Bl (fun i=>[(0,1),(1,1)][i]?) ps z) fun l=>some (.agg ⟨l⟩):=kR
def zK:FAo 138 0:=by unfold FAo;intros;kernel_rfl
def zL:FIo 138 0 0:=by unfold FIo;intros;kernel_rfl
def zM:FAn 138 1 1:=by unfold FAn;intros;kernel_rfl
def zN:FIo 138 1 1:=by unfold FIo;intros;kernel_rfl
def Aq2:LDo 140:=by unfold LDo;intros;kernel_rfl
def Aq3:LDo 141:=by unfold LDo;intros;kernel_rfl
def Aq4:STn 143 3:=by unfold STn;intros;kernel_rfl
def Ar9:AR Tryz.prog 143=some ([.nilFunc,.bool false,.nilFunc],ptrTo):=kR
def As0:Ad Tryz.prog 143=some (.agg ⟨[.nilFunc,.bool false,.nilFunc]⟩):=kR
def As1:Bm Tryz.prog 143 z ps=ob (Bl (fun i=>[(0,1),(1,1),(2,1)][i]?) ps z) fun l=>some (.agg ⟨l⟩):=kR
def zO:FAo 143 0:=by unfold FAo;intros;kernel_rfl
def zP:FAn 143 1 1:=by unfold FAn;intros;kernel_rfl
def zQ:FAn 143 2 2:=by unfold FAn;intros;kernel_rfl
def As2:Ad Tryz.prog 152=some (.agg ⟨[.slice none 0 0,.int .i64 0,.int .i64 0]⟩):=kR
def As3:Bm Tryz.prog 152 z ps=ob (Bl (fun i=>[(0,2),(2,1)][i]?) ps z) fun l=>some (.agg ⟨l⟩):=kR
def zR:FAo 152 0:=by unfold FAo;intros;kernel_rfl
def zS:FAn 152 1 2:=by unfold FAn;intros;kernel_rfl
def Aq5:LDn 154 6:=by unfold LDn;intros;kernel_rfl
def As4:LVn 154 6:=by unfold LVn;intros;kernel_rfl
def Aq6:STn 154 6:=by unfold STn;intros;kernel_rfl
def As5:AR Tryz.prog 154=some ([str [],.int .i64 0,.int .i64 0,str [],.slice none 0 0,.int .i64 0],ptrTo):=kR
def As6:Ad Tryz.prog 154=some (.agg ⟨[str [],.int .i64 0,.int .i64 0,str [],.slice none 0 0,.int .i64 0]⟩):=kR
def As7:Bm Tryz.prog 154 z ps=ob (Bl (fun i=>[(0,5),(5,1)][i]?) ps z) fun l=>some (.agg ⟨l⟩):=kR
def zT:FAo 154 0:=by unfold FAo;intros;kernel_rfl
def zU:FAn 154 1 5:=by unfold FAn;intros;kernel_rfl
def Aq7:LDo 180:=by unfold LDo;intros;kernel_rfl
def As8:IAs 202 1:=by unfold IAs;intros;kernel_rfl
def H5:APn 202 1 9 101:=by unfold APn;intros;kernel_rfl
def Aq8:SLn 202 1 [.pointer none]:=by unfold SLn;intros;kernel_rfl
def As9:Ad Tryz.prog 254=some (.agg ⟨[.bool false,.int .u64 0,.int .u64 0]⟩):=kR
def At0:Bm Tryz.prog 254 z ps=ob (Bl (fun i=>[(0,1),(1,1),(2,1)][i]?) ps z) fun l=>some (.agg ⟨l⟩):=kR
def zV:FAo 254 0:=by unfold FAo;intros;kernel_rfl
def zW:FAn 254 1 1:=by unfold FAn;intros;kernel_rfl
def zX:FAn 254 2 2:=by unfold FAn;intros;kernel_rfl
def At1:Ad Tryz.prog 266=some (.agg ⟨[.int .u64 0,.int .u64 0]⟩):=kR
def At2:Bm Tryz.prog 266 z ps=ob (Bl (fun i=>[(0,1),(1,1)][i]?) ps z) fun l=>some (.agg ⟨l⟩):=kR
def zY:FAo 266 0:=by unfold FAo;intros;kernel_rfl
def zZ:FAn 266 1 1:=by unfold FAn;intros;kernel_rfl
end
end
end Go.Proofs.T
namespace Go.Proofs
open Go.Shelf
def Tryz.OM:Go.Shelf.Ren:=⟨fun|156=>66|165=>111|166=>65|169=>68|240=>110|241=>152|276=>151|277=>187|n=>n,fun|31=>36|9=>9|3=>3|4=>4|0=>0|20=>20|72=>116|76=>119|70=>114|37=>43|75=>118|127=>174|164=>190|5=>5|80=>125|n=>n,fun|n=>n⟩
def Tryz.eW:Go.Proofs.Lays.n156 Tryz.prog Tryz.OM:={
 mixed:=by kernel_rfl
 f156:=Tryz.func66.trans (congrArg some (by kernel_rfl))
 f165:=Tryz.func111.trans (congrArg some (by kernel_rfl))
 f166:=Tryz.func65.trans (congrArg some (by kernel_rfl))
 f169:=Tryz.func68.trans (congrArg some (by kernel_rfl))
 f240:=Tryz.func110.trans (congrArg some (by kernel_rfl))
 f241:=Tryz.func152.trans (congrArg some (by kernel_rfl))
 f276:=Tryz.func151.trans (congrArg some (by kernel_rfl))
 f277:=Tryz.func187.trans (congrArg some (by kernel_rfl))
 t0:=Tryz.underlying0
 a0:=Tryz.isAgg0
 z0:=Tryz.sizeOf0
 v0:=Tryz.zeroValue0
 t3:=Tryz.underlying3
 a3:=Tryz.isAgg3
 z3:=Tryz.sizeOf3
 v3:=Tryz.zeroValue3
 t4:=Tryz.underlying4
 a4:=Tryz.isAgg4
 z4:=Tryz.sizeOf4
 v4:=Tryz.zeroValue4
 t9:=Tryz.underlying9
 a9:=Tryz.isAgg9
 z9:=Tryz.sizeOf9
 v9:=Tryz.zeroValue9
 t20:=Tryz.underlying20
 a20:=Tryz.isAgg20
 z20:=Tryz.sizeOf20
 v20:=Tryz.zeroValue20
 t31:=Tryz.underlying36
 a31:=Tryz.isAgg36
 z31:=Tryz.sizeOf36
 v31:=Tryz.zeroValue36
 t37:=Tryz.underlying43
 a37:=Tryz.isAgg43
 z37:=Tryz.sizeOf43
 v37:=Tryz.zeroValue43
 t70:=Tryz.underlying114
 a70:=Tryz.isAgg114
 z70:=Tryz.sizeOf114
 v70:=Tryz.zeroValue114
 t72:=Tryz.underlying116
 a72:=Tryz.isAgg116
 z72:=Tryz.sizeOf116
 v72:=Tryz.zeroValue116
 t75:=Tryz.underlying118
 a75:=Tryz.isAgg118
 z75:=Tryz.sizeOf118
 v75:=Tryz.zeroValue118
 t76:=Tryz.underlying119
 a76:=Tryz.isAgg119
 z76:=Tryz.sizeOf119
 v76:=Tryz.zeroValue119
 t127:=Tryz.underlying174
 a127:=Tryz.isAgg174
 z127:=Tryz.sizeOf174
 v127:=Tryz.zeroValue174
 t164:=Tryz.underlying190
 a164:=Tryz.isAgg190
 z164:=Tryz.sizeOf190
 v164:=Tryz.zeroValue190 }
def Tryz.AB5:Builder.Extra Tryz.prog Tryz.OM:={
 sizeBuilder:=by kernel_rfl
 liesBuilder:=by kernel_rfl
 t5:=Tryz.underlying5
 a5:=Tryz.isAgg5
 z5:=Tryz.sizeOf5
 v5:=Tryz.zeroValue5
 infoByte:=by kernel_rfl
 cellsByte:=by kernel_rfl
 sizeByte:=by kernel_rfl
 neB5:=by decide }
end Go.Proofs
namespace Go.Proofs.T
open Go Go.Ab Go.RowKit
def lS {P:Program}{e s m:Nat}(f:Nat.ble 1 P.depth=true) (h:P.cellsOf e=s) (b:0<s) (i:s<=m):liesAt P P.depth e (m / P.cellsOf e) 0 e 1=true:=by
 obtain⟨d,a⟩:∃ d,P.depth=d+1:=⟨P.depth-1,by have:=Cj f;omega⟩
 rw[a];unfold liesAt;rw[a];have c:1<=m / s:=(Nat.le_div_iff_mul_le b).2 om;have g:rowAt P (sameLayout P (d+1) · e) (d+1) e (m / P.cellsOf e) 0 1=true:=by
  unfold rowAt;rw[h];simp only[z0z (show ¬ s=0 by omega),Nat.zero_div,qP,beq_self_eq_true,Bx];have:sameLayout P (d+1) e e=true:=by unfold sameLayout;simp
  rw[this];simp[c]
 rw[g];rfl
def dB (c:Nat) (w:World) (b:w.cell? ⟨c,0,none⟩=some (.pointer (some ⟨c,0,none⟩))) :
  Calls Tryz.prog 110 #[.pointer (some ⟨c,0,none⟩)] w fun e w'=>e= .returned (.tuple #[])/\w'=w:=by
 obtain⟨j,a,_⟩:=sC.1 (show(Tryz.prog.info? 116).map (·.size)=some 2 by kernel_rfl)
 go_enter Tryz.func110,Tryz.ntmps110
 go_wp2
 rw[Lib.run_neq_ptr_same w _ Tryz.underlying114 a]
 go_wp2
 go_end0
 exact⟨rfl,rfl⟩
def ZO (c m:Nat) (w:World) (h:w.cell? ⟨c,0,none⟩=some (.pointer none)) (a:w.shape? c=some (116,m)) (g:2<=m) (f:w.frozen? ⟨c,0,none⟩=false) :
  Calls Tryz.prog 110 #[.pointer (some ⟨c,0,none⟩)] w fun e w'=>e= .returned (.tuple #[])/\w'=w.setCell ⟨c,0,none⟩ (.pointer (some ⟨c,0,none⟩)):=by
 obtain⟨j,d,b⟩:=sC.1 (show(Tryz.prog.info? 116).map (·.size)=some 2 by kernel_rfl)
 go_enter Tryz.func110,Tryz.ntmps110
 go_wp2
 rw[Lib.run_to_unsafe w ⟨c,0,none⟩ Tryz.underlying114 Tryz.underlying190 d (by rw[b];decide) a (by show 0<m;omega)];simp only[Result.andThen];rw[sD]
 go_wp2
 rw[run_callFunc_extern Tryz.func151 kR kR kR (e:=Extern.AbiNoEscape.same) kR];rw[Lib.run_noEscape];simp only[Result.andThen];rw[sD]
 go_wp2
 rw[Lib.run_from_unsafe w ⟨c,0,none⟩ Tryz.underlying190 Tryz.underlying114 d a (lS kR (s:=2) kR om g)];simp only[Result.andThen];rw[sD]
 go_wp2
 go_end0
 exact⟨rfl,rfl⟩
def dC (c g cap cells:Nat) (l:List UInt8) (w:World) (m:w.cell? ⟨c,1,none⟩=some (.slice (some ⟨g,0,none⟩) l.length cap)) (p:l.length<=cap) (b:w.shape? g=some (5,cells)) (d:l≠[]) (n:l.length<=cells) (a:l.length<=9223372036854775807)
  (f:∀ j x,l[j]? =some x->w.cell? ((⟨g,0,none⟩:Addr).add j)=some (.int .u8 x.toNat)) :
  Calls Tryz.prog 68 #[.pointer (some ⟨c,0,none⟩)] w fun e w'=>e= .returned (.string ⟨l.toArray⟩)/\w'=w.drew.freeze ⟨g,0,none⟩ l.length:=by
 have o:l.length≠0:=by simpa using d
 have c1:w.drew.cell? ⟨c,1,none⟩=some (.slice (some ⟨g,0,none⟩) l.length cap):=m
 have h:(Builtin.unsafeSliceData_ #[43] 174 #[.slice (some ⟨g,0,none⟩) l.length cap]).run Tryz.prog w.drew= .ok (.pointer (some ⟨g,0,none⟩)) w.drew :=
  Lib.run_unsafeSliceData_row _ _ _ _ _ _ om
 have i:(Builtin.unsafeString_ #[174,3] 9 #[.pointer (some ⟨g,0,none⟩),.int .i64 l.length]).run Tryz.prog w.drew= .ok (.string ⟨l.toArray⟩) (w.drew.freeze ⟨g,0,none⟩ l.length) :=
  Lib.run_unsafeString_row w.drew 174 3 9 5 Tryz.underlying174 kR g cells b l d n a f
 have mixed:Tryz.prog.follows .mixedOrders=true:=kR
 go_enter Tryz.func68,Tryz.ntmps68
 go_wp2
 go_region_o
 all_goals (go_wp2;go_ret;exact⟨rfl,rfl⟩)
end Go.Proofs.T
namespace Go.Proofs.T
open Go Go.Ab
section
variable {e:Operand->Value}{v p u:Value}{x:Operand}
def Ah0 (x:Value) (w:World):(invoke (.fn (.func 69) #[x]) #[]).run Tryz.prog w= .ok (.enter 69 #[x]) w:=by
 have b:Tryz.prog.funcs[69]? =some Tryz.f69:=Tryz.func69;simp[invoke,callFunc,Sem.run_bind,run_program,Result.andThen_ok,b];rw[z0z (z9z kR),z0z (by intro h;cases h)]
def vK (Q:Exit->Act->World->Prop) (a:Act) (w:World) (x:Value) (s:7<=a.tmps.size) (m:a.tmps[2]? =some x) (h:Q .normal (deferred a 3 69 x) w){f g:String}{c d:Array Edge}{i j l:Nat}:
  (Code.region i #[⟨some 3,.makeFunc (.func 69) #[] #[.tmp 2],j,f,c,none⟩,⟨none,.defer ⟨.value (.tmp 3),#[],#[]⟩,l,g,d,none⟩] false).wpIn Fence.wide 0 Tryz.prog Q a w:=by
 refine wpIn_region_list ?_;simp only[wpListIn,Region.wanted,FU];refine⟨fun _ _=>trivial,?_⟩;have q:(Oper.semAt Fence.wide.round a.eval ⟨some 3,.makeFunc (.func 69) #[] #[.tmp 2],j,f,c,none⟩).run Tryz.prog w= .ok (.value (.func (.func 69) #[] #[x])) w:=by
  simp[Fence.wide,Oper.semAt_none,execOp,Instr.makeFunc,Act.eval,m]
 rw[q];show Oper.wpIn _ _ _ _ _ _ _ _;refine⟨fun _ _=>trivial,?_⟩;have r:(Oper.semAt Fence.wide.round (a.put (some 3) (.func (.func 69) #[] #[x])).eval ⟨none,.defer ⟨.value (.tmp 3),#[],#[]⟩,l,g,d,none⟩).run Tryz.prog w= .ok (.defer { target:= .fn (.func 69) #[x],args:=#[] }) w:=by
  have b:(a.put (some 3) (.func (.func 69) #[] #[x])).tmps[3]? =some (.func (.func 69) #[] #[x]):=by
   show(a.tmps.setIfInBounds 3 _)[3]? =_;rw[Array.getElem?_setIfInBounds,z1z rfl,z1z om]
  simp[Fence.wide,Oper.semAt_none,execOp,Act.eval,b,resolve,Deferred.ofValue]
 rw[r];exact h
def ay (x:Value) (w:World):CallsDIn Fence.wide 0 Tryz.prog 69 #[x] .returning w fun e u' w'=>(∃ v,e= .returned v)/\u'= .returning/\w'=w:=by
 refine callsDIn_of_wpSIn Tryz.func69 rfl trivial fun b cs c=>?_;apply wpSIn_seq;apply wpSIn_region;simp[wpOpsSIn,go_sem,recoverD,c,Tryz.ntmps69,Exit.thenS];apply wpSIn_seq;apply wpSIn_region;have d:Tryz.prog.underlying 20=some (.interface #[]):=Tryz.underlying20;have f:∀ w:World,(Op.equalIn Op.maxDepth 20 .nilIface .nilIface).run Tryz.prog w= .ok true w:=fun w=>FM _ (show O8 Tryz.prog (Op.equalIn Op.maxDepth 20 .nilIface .nilIface)=some true by kernel_rfl) w;simp[wpOpsSIn,go_sem,recoverD,c,Tryz.ntmps69,Exit.thenS,eqGuard,binOp,Op.equal,d,f];refine wpSIn_cond (t:=false) (by simp[Act.eval,Array.replicate]) ?_;refine wpSIn_of_wpIn rfl (wpIn_skip ?_);simp[bodyPostS,results,go_sem,c];cases b;cases c;rfl
section
variable {P:Program}{n:Nat}{Q:Exit->Act->List Frame->World->Prop}{a:Act}{cs:List Frame}{w w':World}{ops:Array Oper}{i:Nat}{H4:List Nat}{o:Oper}
def opS (c:ops[i]? =some o) (b:o.guard=none) (h:(execOp a.eval o).run P w= .ok (.value v) w') (k:wpOpsSIn Fence.wide n P ops Q H4 (a.put o.dst v) cs w'):wpOpsSIn Fence.wide n P ops Q (i::H4) a cs w:=by
 simp only[wpOpsSIn,c,Region.wanted,b,FU,h];exact⟨fun _ _=>trivial,k⟩
def Ah1 (c:ops[i]? =some o) (b:o.guard=none) (h:(execOp a.eval o).run P w= .ok .skip w') (k:wpOpsSIn Fence.wide n P ops Q H4 (a.put o.dst undef) cs w'):wpOpsSIn Fence.wide n P ops Q (i::H4) a cs w:=by
 simp only[wpOpsSIn,c,Region.wanted,b,FU,h];exact⟨fun _ _=>trivial,k⟩
def QX {t:TypeId}{y:Operand}(b:o.op= .store t x y)(c:e x=p) (d:e y=v) (h:(Instr.storeAt t p v).run P w= .ok () w'):(execOp e o).run P w= .ok .skip w':=by
 simp only[execOp,b,c,d,Sem.run_bind,h];rfl
def jW {t:TypeId}(b:o.op= .load t x)(c:e x=p) (h:(Instr.loadAt t p).run P w= .ok u w'):(execOp e o).run P w= .ok (.value u) w':=by
 simp only[execOp,b,c,Sem.run_bind,h];rfl
def az {t:TypeId}(b:o.op= .alloc t)(h:(Instr.alloc t true (.tuple #[])).run P w= .ok u w'):(execOp e o).run P w= .ok (.value u) w':=by
 simp only[execOp,b,Sem.run_bind,h];rfl
end
def Xi (x v:Value) (w w':World) (h:Nk Tryz.prog 86 x v w w'):CallsDIn Fence.wide 0 Tryz.prog 69 #[x] (.panicking [{ v:= .iface 86 v,recovered:=false }]) w fun e u' w''=>(∃ v,e= .returned v)/\settle u'= .returning/\w''=w':=by
 obtain⟨q,r,u,g,j,l,m⟩:=h;refine callsDIn_of_wpSIn Tryz.func69 rfl trivial fun b cs c=>?_;apply wpSIn_seq;apply wpSIn_region;simp[wpOpsSIn,go_sem,recoverD,c,Tryz.ntmps69,Exit.thenS];apply wpSIn_seq;apply wpSIn_region;have d:Tryz.prog.underlying 20=some (.interface #[]):=Tryz.underlying20;have f:∀ w:World,(Op.equalIn Op.maxDepth 20 (.iface 86 v) .nilIface).run Tryz.prog w= .ok false w:=fun w=>FM _ (show O8 Tryz.prog (Op.equalIn Op.maxDepth 20 (.iface 86 v) .nilIface)=some false by kernel_rfl) w;simp[wpOpsSIn,go_sem,recoverD,c,Tryz.ntmps69,Exit.thenS,eqGuard,binOp,Op.equal,d,f];refine wpSIn_cond (t:=true) (by simp[Act.eval,Array.replicate]) ?_;simp only[FU];apply wpSIn_seq;apply wpSIn_region;show wpOpsSIn _ _ _ _ _ [0,1,2,3,4,5,6,7] _ _ _;refine opS rfl rfl (by simp[go_sem];exact⟨rfl,rfl⟩) ?_;refine opS rfl rfl (by simp[go_sem,Instr.typeAssert];exact⟨rfl,rfl⟩) ?_;refine opS rfl rfl (by simp[go_sem];exact⟨rfl,rfl⟩) ?_;refine opS rfl rfl (by simp[go_sem];exact⟨rfl,rfl⟩) ?_;refine opS rfl rfl (by simp[go_sem];exact⟨rfl,rfl⟩) ?_;refine opS rfl rfl (az rfl g) ?_;refine Ah1 rfl rfl (QX rfl (by simp[go_sem]) (by simp[go_sem]) j) ?_;refine opS rfl rfl (by simp[go_sem];exact⟨rfl,rfl⟩) ?_;apply wpSIn_seq;apply wpSIn_seq;apply wpSIn_region;show wpOpsSIn _ _ _ _ _ [0,1] _ _ _;refine opS rfl rfl (by simp[go_sem];exact⟨rfl,rfl⟩) ?_;refine opS rfl rfl (by simp[go_sem];first|rfl|exact⟨rfl,rfl⟩) ?_;refine wpSIn_cond (t:=false) (by simp[go_sem]) ?_;refine wpSIn_of_wpIn rfl (wpIn_skip ?_);apply wpSIn_region;show wpOpsSIn _ _ _ _ _ [0,1] _ _ _;refine opS rfl rfl (jW rfl (by simp[go_sem]) l) ?_;refine Ah1 rfl rfl (QX rfl (by simp[go_sem]) (by simp[go_sem]) m) ?_;show bodyPostS _ _ _ _ _ .normal _ _ _;simp[bodyPostS,results,go_sem,c];cases b;cases c;rfl
noncomputable def parts:Code×Code×Code×Code:=match Tryz.f38.body with
 |some (.seq a (.seq b (.seq c (.seq d .ret))))=>(a,b,c,d)
 |_=>(.skip,.skip,.skip,.skip)
noncomputable def PQ:oZ:=oc Tryz.prog parts.1 parts.2.2.1 parts.2.2.2 3 2 86 86 [.cell 2 86]
def bA {A9:Env}{G:Nat}(b:codeOk Tryz.prog 7 G parts.1=true/\codeOk Tryz.prog 7 G parts.2.2.1=true/\codeOk Tryz.prog 7 G parts.2.2.2=true){run:RunT}(j:QD Tryz.prog A9 G run){vs:List Value}{Z:St}{r:CR}(h:PQ.f run vs Z=some r):
  Adv Z r.Z/\∀ O w vs' N,Rel A9 O Z w->Cz O Z.n N->r.Z.n<=N->CL O G->H8 O vs vs'->CM Tryz.prog A9 O 38 vs' Z w r :=
 bB (c1:=parts.2.1) (k:=69) Tryz.func38 kR rfl (fun Q a w x c d g=>vK Q a w x c d g) Ah0 ay Xi b.1 b.2.1 b.2.2 j h
end
end Go.Proofs.T
namespace Go.Proofs.T
open Go Go.Ab Go.RowKit
section
variable {vs:List Value}{Z:St}{r:CR}
noncomputable def ckF (vs:List Value) (Z:St):Option CR:=match vs with
 | [.pointer (some ⟨b,0,none⟩)]=>ob (Z.typ b) fun t=>bb (Nat.beq t 116) (ob (Z.read b 0 2) fun cs=>(match cs with
   | [.pointer none,_]=>ob (Z.write b 0 [.pointer (some ⟨b,0,none⟩)]) fun Z=>some ⟨false,.tuple #[],Z⟩
   | [.pointer (some ⟨c,0,none⟩),_]=>bb (Nat.beq c b) (some ⟨false,.tuple #[],Z⟩)
   |_=>none))
 |_=>none
noncomputable def YE (v:Value):Option UInt8:=match v with
 | .int .u8 (.ofNat n)=>bb (Nat.blt n 256) (some (UInt8.ofNat n))
 |_=>none
noncomputable def Nn (l:List Value):Option (List UInt8) :=
 List.rec (motive:=fun _=>Option (List UInt8)) (some []) (fun v _ a=>ob (YE v) fun b=>ob a fun bs=>some (b::bs)) l
noncomputable def vy (vs:List Value) (Z:St):Option CR:=match vs with
 | [.pointer (some ⟨b,0,none⟩)]=>ob (Z.typ b) fun t=>bb (Nat.beq t 116) (ob (Z.read b 0 2) fun cs=>(match cs with
   | [_,.slice (some ⟨g,0,_⟩) (n+1) k]=>ob (Z.typ g) fun t=>bb (Nat.beq t 5) (bb (Nat.ble (n+1) k) (bb (Nat.ble n room) (ob (Z.read g 0 (n+1)) fun cs=>ob (Nn cs) fun l=>ob (Z.kill g) fun Z=>some ⟨false,.string ⟨l.toArray⟩,Z⟩)))
   |_=>none))
 |_=>none
section
variable {A9:Env}{G:Nat}
def OD {O:Ab.Place}{w:World}{q:CJ}{cells:List Value}{v1 v2:Value}(j:Row A9 O w q cells) (n:q.o=0) (p:sub cells 0 2=some [v1,v2]):
  2<=q.m/\(∃ u,w.cell? ⟨q.c,0,none⟩=some u/\J5 O v1 u)/\∃ u,w.cell? ⟨q.c,1,none⟩=some u/\J5 O v2 u:=by
 obtain⟨arr,e,lo,hi,a,v,f,y,z,b⟩:=j;obtain⟨s1,s2⟩:=sub_eq p;have h:cells[0]? =some v1:=by
  have:=congrArg (fun l:List Value=>l[0]?) s2
  simpa using this.symm
 have i:cells[1]? =some v2:=by
  have:=congrArg (fun l:List Value=>l[1]?) s2
  simpa using this.symm
 obtain⟨s,d,g⟩:=b 0 v1 h;obtain⟨u2,b3,b4⟩:=b 1 v2 i;rw[n]at d b3 f;exact⟨om,⟨s,by rw[IT a];exact d,g⟩,u2,by rw[IT a];exact b3,b4⟩
def AV8 (h:ckF vs Z=some r):Adv Z r.Z/\∀ O w vs' N,Rel A9 O Z w->Cz O Z.n N->r.Z.n<=N->CL O G->H8 O vs vs'->CM Tryz.prog A9 O 110 vs' Z w r:=by
 unfold ckF at h;split at h
 ·rename_i b;obtain⟨t,y,z⟩:=A8 h;clear h;obtain⟨g2,h2⟩:=J4 z;clear z;obtain rfl:=Ac g2;obtain⟨cs,g3,h⟩:=A8 h2;clear h2;obtain⟨B,hB,Gb⟩:=W2 g3;split at h
  ·rename_i K;obtain⟨Z',g4,h⟩:=A8 h;cases h;refine⟨.write g4,fun O w vs' N a D F E d=>?_⟩;cases d with
   |cons p d=>
   cases d;cases p with
   |J8 hs=>simp[J8]at hs
   | @ptr _ _ q hq=>
   obtain⟨g,arr,f,i⟩:=a.typ hq ⟨B,(j0 hB).1⟩ y;have v:=a.row b q B hq hB;obtain⟨h2,⟨u,hu,hur⟩,_⟩:=OD v g Gb;have s:u= .pointer none:=by cases hur with|J8 hs=>rfl
   subst s;obtain⟨L,A,C⟩:=a.write hq g4 (vs':=[.pointer (some ⟨q.c,0,none⟩)]) (.cons (by have:=J5.ptr (off:=0) hq;rwa [g]at this) .nil) (by simp[N2]);obtain⟨Al5,e,lo,hi,a1,a0,a2,a3,a4,a5⟩:=v;rw[i]at a1;cases a1;obtain⟨B',cs',hr1,BG3,_⟩:=JT g4;rw[hB]at hr1;cases hr1;have l:=a3 (a.own b q B hq (j0 hB).1 BG3);have j:w.frozen? ⟨q.c,0,none⟩=false:=by
    simp only[World.frozen?,i];rcases l with J|J
    ·simp;omega
    ·simp;omega
   have I:LX w q.c (q.o+0) [.pointer (some ⟨q.c,0,none⟩)]=w.setCell ⟨q.c,0,none⟩ (.pointer (some ⟨q.c,0,none⟩)):=by rw[g];rfl
   rw[I]at A C;have H:=ZO q.c q.m w hu (by simp[World.shape?,i,a0]) h2 j;rw[show q.o+0=0 from by omega];exact KH Tryz.func110 kR rfl H A C (.tuple .nil)
  ·rename_i c K;obtain⟨g4,h⟩:=J4 h;cases h;obtain rfl:=Ac g4;refine⟨.refl _,fun O w vs' N a D F E d=>?_⟩;cases d with
   |cons p d=>
   cases d;cases p with
   |J8 hs=>simp[J8]at hs
   | @ptr _ _ q hq=>
   obtain⟨g,arr,f,i⟩:=a.typ hq ⟨B,(j0 hB).1⟩ y;obtain⟨h2,⟨u,hu,hur⟩,_⟩:=OD (a.row _ q B hq hB) g Gb;cases hur with
   |J8 hs=>simp[J8]at hs
   | @ptr _ _ q' hq'=>
   rw[hq]at hq';cases hq';rw[show q.o+0=0 from by omega]at hu ⊢;exact KH Tryz.func110 kR rfl (dB q.c w hu) a (.refl _ _ _) (.tuple .nil)
  ·cases h
 ·cases h
def mK:∀ {cs:List Value}{l:List UInt8},Nn cs=some l->cs.length=l.length/\∀ (j:Nat) (x:UInt8),l[j]? =some x->cs[j]? =some (Value.int .u8 x.toNat):=by
 intro cs;induction cs with
 |nil=>intro l h;cases h;exact⟨rfl,fun j x h=>by simp at h⟩
 | cons v cs ih=>
   intro l h;obtain⟨b,a,h⟩:=A8 (show ob (YE v) (fun b=>ob (Nn cs) fun bs=>some (b::bs))=some l from h);obtain⟨bs,h2,h⟩:=A8 h;cases h;obtain⟨e1,e2⟩:=ih h2;refine⟨by simp[e1],fun j x c=>?_⟩;cases j with
   | zero=>
     simp at c;subst c;unfold YE at a;split at a
     ·rename_i n;obtain⟨d,e⟩:=J4 a;cases e;rw[EJ]at d;show some (Value.int .u8 (n:Nat))=some (Value.int .u8 ((UInt8.ofNat n).toNat:Nat));rw[show(UInt8.ofNat n).toNat=n from by simp[UInt8.toNat_ofNat'];omega]
     ·cases a
   |succ j=>simpa using e2 j x (by simpa using c)
def yz (h:vy vs Z=some r):Adv Z r.Z/\∀ O w vs' N,Rel A9 O Z w->Cz O Z.n N->r.Z.n<=N->CL O G->H8 O vs vs'->CM Tryz.prog A9 O 68 vs' Z w r:=by
 unfold vy at h;split at h
 ·rename_i b;obtain⟨t,R,s⟩:=A8 h;clear h;obtain⟨g2,h2⟩:=J4 s;clear s;obtain rfl:=Ac g2;obtain⟨cs,g3,h⟩:=A8 h2;clear h2;obtain⟨B,hB,Gb⟩:=W2 g3;split at h
  ·rename_i v1 g sp n k;obtain⟨t,g4,s⟩:=A8 h;clear h;obtain⟨g5,h2⟩:=J4 s;clear s;obtain rfl:=Ac g5;obtain⟨g6,h3⟩:=J4 h2;obtain⟨g7,h4⟩:=J4 h3;obtain⟨cs,g8,h5⟩:=A8 h4;obtain⟨l,g9,h6⟩:=A8 h5;obtain⟨Z',g10,h7⟩:=A8 h6;cases h7;clear h2 h3 h4 h5 h6;have J:=Cj g6;have Q:=Cj g7;unfold room at Q;obtain⟨Bg,hBg,Ap5⟩:=W2 g8;refine⟨.kill g10,fun O w vs' N v hF hN hG H=>?_⟩;cases H with
   |cons X H=>
   cases H;cases X with
   |J8 hs=>simp[J8]at hs
   | @ptr _ _ q hq=>
   obtain⟨W,arr,f,ha⟩:=v.typ hq ⟨B,(j0 hB).1⟩ R;obtain⟨h2,_,u,hu,hur⟩:=OD (v.row b q B hq hB) W Gb;have fin:∀ (a:CJ) (k':Nat),O g=some a->u= .slice (some ⟨a.c,a.o,none⟩) (n+1) k'->n+1<=k'->CM Tryz.prog A9 O 68 [.pointer (some ⟨q.c,q.o+0,none⟩)] Z w ⟨false,.string ⟨l.toArray⟩,Z'⟩:=by
    intro a k' p F hk;subst F;obtain⟨y,z,fg,d⟩:=v.typ p ⟨Bg,(j0 hBg).1⟩ g4;obtain⟨Al5,e,lo,hi,a1,a0,a2,a3,a4,a5⟩:=v.row g a Bg p hBg;rw[d]at a1;cases a1;obtain⟨s1,s2⟩:=sub_eq Ap5;have L:cs.length=n+1:=by rw[s2];simp;omega
    obtain⟨u1,Y⟩:=mK g9;have i:l.length=n+1:=om;have M:∀ j x,l[j]? =some x->w.cell? ((⟨a.c,0,none⟩:Addr).add j)=some (.int .u8 x.toNat):=by
     intro j x K;have I:=Y j x K;have C:j<n+1:=by have:=(List.getElem?_eq_some_iff.1 K).1;omega
     rw[s2,List.getElem?_take_of_lt C,List.getElem?_drop,Eo]at I;obtain⟨v',c1,c2⟩:=a5 j _ I;rw[y,Eo]at c1;rw[addr_add,IT d,Eo,c1];cases c2 with
     |J8 _=>rfl
    have S:=dC q.c a.c k' z.size l w (by rw[i,<- y];exact hu) om (by simp[World.shape?,d]) (by intro U;rw[U]at i;simp at i) om om M;have A:∀ c,c≠a.c->(w.drew.freeze ⟨a.c,0,none⟩ l.length).heap[c]? =w.heap[c]? :=by
     intro c E;unfold World.freeze;split
     ·rfl
     ·show(w.heap.modify a.c _)[c]? =_;rw[Array.getElem?_modify,z0z (fun h=>E h.symm)]
    obtain⟨w2,w3⟩:=v.AM7 p g10 (w':=w.drew.freeze ⟨a.c,0,none⟩ l.length) (by unfold World.freeze;split<;>simp) A (by unfold World.freeze;split<;>exact⟨rfl,rfl,rfl⟩);rw[show q.o+0=0 from by omega];exact KH Tryz.func68 kR rfl S w2 w3 (.J8 rfl)
   cases hur with
   |slice m=>exact fin _ _ m rfl J
   |grow m D V=>exact fin _ _ m rfl (W5 J D)
   |J8 hs=>simp[J8]at hs
  ·cases h
 ·cases h
end
end
end Go.Proofs.T
namespace Go.Proofs.T
open Go Go.Ab Go.RowKit
def zA {A9:Env}{G:Nat}{vs:List Value}{Z:St}{r:CR}(h:gF vs Z=some r):Adv Z r.Z/\∀ O w vs' N,Rel A9 O Z w->Cz O Z.n N->r.Z.n<=N->CL O G->H8 O vs vs'->CM Tryz.prog A9 O 66 vs' Z w r :=
 qX (g:=66) Tryz.func66 kR rfl
  (fun d o c xs b w e f i j l=>Any.strings_Join Tryz.eW Tryz.AB5 d o c xs b w e f i j l)
  (fun a c b w=>Any.strings_Join_none Tryz.eW Tryz.AB5 a c b w) h
noncomputable def CS:EP:=fun g=>if g=38 then some PQ else if g=66 then some (.plain gF)else if g=68 then some (.plain vy)else if g=110 then some (.plain ckF)else none
def Ak3 {A9:Env}{G:Nat}(d:codeOk Tryz.prog 7 G parts.1=true/\codeOk Tryz.prog 7 G parts.2.2.1=true/\codeOk Tryz.prog 7 G parts.2.2.2=true):JU Tryz.prog A9 G CS:=by
 intro g s a run c vs Z r h;unfold CS at a;split at a
 ·rename_i b;subst b;cases a;exact bA d c h
 ·split at a
  ·rename_i b;subst b;cases a;exact zA h
  ·split at a
   ·rename_i b;subst b;cases a;exact yz h
   ·split at a
    ·rename_i b;subst b;cases a;exact AV8 h
    ·cases a
end Go.Proofs.T
namespace Go.Proofs.T
open Go Go.Ab Go.RowKit
section
variable {vs:List Value}{Z:St}{r:CR}
noncomputable def CD (c:UInt8) (l:List UInt8):Int:=List.rec (motive:=fun _=>Int) (-1) (fun b _ a=>bi (Nat.beq b.toNat c.toNat) 0 (bi (ilt a 0) (-1) (a+1))) l
noncomputable def Fg (c:UInt8) (l:List UInt8):Nat:=List.rec (motive:=fun _=>Nat) 0 (fun b _ a=>bi (Nat.beq b.toNat c.toNat) (a+1) a) l
def LH (a b:UInt8):Nat.beq a.toNat b.toNat=(a==b):=by
 rw[z7z];constructor
 ·intro h;rw[ec (Ac h)];simp
 ·intro h;rw[eq_of_beq h];exact Nat.beq_refl _
def xI (c:UInt8):∀ l:List UInt8,CD c l=Lib.indexByte l c:=by
 intro l;induction l with
 |nil=>rfl
 | cons b l ih=>
   show bi (Nat.beq b.toNat c.toNat) 0 (bi (ilt (CD c l) 0) (-1) (CD c l+1))=_;rw[ih,LH];rw[show Lib.indexByte (b::l) c=if (b==c)=true then 0 else if (Lib.indexByte l c== -1)=true then -1 else Lib.indexByte l c+1 from rfl];have a:=Lib.indexByte_ge l c;generalize Lib.indexByte l c=z at a ⊢;cases d:(b==c)with
   |true=>rfl
   | false=>
     rw[j7,z0z (by simp),JG];by_cases h:z= -1
     ·subst h;rfl
     ·rw[dF,j7,z0z (by simpa using h)]
def xJ (c:UInt8):∀ l:List UInt8,Fg c l=Lib.countByte l c:=by
 intro l;induction l with
 |nil=>rfl
 | cons b l ih=>
   show bi (Nat.beq b.toNat c.toNat) (Fg c l+1) (Fg c l)=_;rw[ih,LH];unfold Lib.countByte;rw[gI];cases a:(b==c)<;>simp
def aJ (n:Int):UInt8:=n.toNat.toUInt8
noncomputable def Ak1 (vs:List Value) (Z:St):Option CR:=match vs with
 | [.string s,.int .u8 n]=>some ⟨false,.int .i64 (CD (aJ n) s.data.toList),Z⟩
 |_=>none
noncomputable def Ak2 (vs:List Value) (Z:St):Option CR:=match vs with
 | [.string s,.int .u8 n]=>some ⟨false,.int .i64 (Fg (aJ n) s.data.toList:Nat),Z⟩
 |_=>none
section
variable {A9:Env}{G:Nat}
def qe {g:Nat}{b:Func}(f:Tryz.prog.funcs[g]? =some b) (i:(b.name== "runtime.NumGoroutine")=false){F:ByteArray->Int->Int}
  (c:∀ s n w,(callFunc g #[.string s,.int .u8 n]).run Tryz.prog w= .ok (.value (.int .i64 (F s n))) w) {vs:List Value}{Z:St}{r:CR}
  (h:(match vs with|[.string s,.int .u8 n]=>some ⟨false,.int .i64 (F s n),Z⟩|_=>none)=some r):Adv Z r.Z/\∀ O w vs' N,Rel A9 O Z w->Cz O Z.n N->r.Z.n<=N->CL O G->H8 O vs vs'->CM Tryz.prog A9 O g vs' Z w r:=by
 split at h
 ·rename_i s n;cases h;refine⟨.refl _,fun O w vs' N o j m l a=>?_⟩;cases a with
  |cons d a=>
  cases a with
  |cons e a=>
  cases a;cases d;cases e;exact⟨b,f,i,.inr ⟨_,c s n w,rfl,rfl,.J8 rfl⟩⟩
 ·cases h
def xK (h:Ak1 vs Z=some r):Adv Z r.Z/\∀ O w vs' N,Rel A9 O Z w->Cz O Z.n N->r.Z.n<=N->CL O G->H8 O vs vs'->CM Tryz.prog A9 O 231 vs' Z w r :=
 qe (F:=fun s n=>CD (aJ n) s.data.toList) Tryz.func231 kR (fun s n w=>by
  rw[run_callFunc_extern Tryz.func231 kR kR kR (e:=Extern.BytealgIndexByte.indexByte) kR,Lib.run_indexByteString,xI];rfl) h
def xL (h:Ak2 vs Z=some r):Adv Z r.Z/\∀ O w vs' N,Rel A9 O Z w->Cz O Z.n N->r.Z.n<=N->CL O G->H8 O vs vs'->CM Tryz.prog A9 O 201 vs' Z w r :=
 qe (F:=fun s n=>(Fg (aJ n) s.data.toList:Nat)) Tryz.func201 kR (fun s n w=>by
  rw[run_callFunc_extern Tryz.func201 kR kR kR (e:=Extern.BytealgCount.count) kR,Lib.run_countString,xJ];rfl) h
end
noncomputable def CS1:EP:=fun g=>if g=231 then some (.plain Ak1)else if g=201 then some (.plain Ak2)else CS g
def AD3 {A9:Env}{G:Nat}(d:codeOk Tryz.prog 7 G parts.1=true/\codeOk Tryz.prog 7 G parts.2.2.1=true/\codeOk Tryz.prog 7 G parts.2.2.2=true):JU Tryz.prog A9 G CS1:=by
 intro g s a run c vs Z r h;unfold CS1 at a;split at a
 ·rename_i b;subst b;cases a;exact xK h
 ·split at a
  ·rename_i b;subst b;cases a;exact xL h
  ·exact Ak3 d g s a run c vs Z r h
end
end Go.Proofs.T
