/- AO3 on the types of the Pc. -/
import Derived.Test.YtgjocfjdecjhoaaGreatDoorIAbD
import Derived.Test.YtgjocfjdecjhoaaGreatDoorProg
import Derived.Shelf.Strings.OnBuilder
import Derived.Lib.Bytealg
set_option linter.unusedSimpArgs false
set_option linter.unusedVariables false
set_option linter.defProp false
set_option maxHeartbeats 32000000
set_option maxRecDepth 100000
namespace Go.Proofs.T
open Go Go.Ab
section
variable {z:List Value}{ps:List (Nat×Value)}
section
abbrev LDo (t:Nat):Prop:=∀ {fr:Fr}{Z:St}{a:Operand},Ib Tryz.prog fr Z t a=ob (ev fr a) fun v=>ob (at? v) fun p=>pr p fun b off=>ob (ob (Z.read b off 1) LL) fun v=>some (v,⟨b,off,1⟩)
abbrev LDn (t n:Nat):Prop:=∀ {fr:Fr}{Z:St}{a:Operand},Ib Tryz.prog fr Z t a=ob (ev fr a) fun v=>ob (at? v) fun p=>pr p fun b off=>ob (ob (Z.read b off n) fun cs=>some (.agg ⟨cs⟩)) fun v=>some (v,⟨b,off,n⟩)
abbrev LVo (t:Nat):Prop:=∀ {Z:St}{b off:Nat},Po Tryz.prog Z t (.pointer (some ⟨b,off,none⟩))=ob (Z.read b off 1) LL
abbrev LVn (t n:Nat):Prop:=∀ {Z:St}{b off:Nat},Po Tryz.prog Z t (.pointer (some ⟨b,off,none⟩))=ob (Z.read b off n) fun cs=>some (.agg ⟨cs⟩)
abbrev STn (t n:Nat):Prop:=∀ {fr:Fr}{Z:St}{a v:Operand},HM Tryz.prog fr Z t a v=ob (ev fr a) fun a=>ob (ev fr v) fun v=>ob (ob (at? a) fun p=>pr p fun b off=>bi (DX v) none (bb ((J6 v).length.beq n) (Z.write b off (J6 v)))) fun Z=>some (R6,Z)
abbrev FAo (t k:Nat):Prop:=∀ {fr:Fr}{x:Operand},Af Tryz.prog fr t x k=ob (ev fr x) fun v=>ob (at? v) fun p=>pr p fun b off=>some (.pointer (some ⟨b,off,none⟩))
abbrev FAn (t k n:Nat):Prop:=∀ {fr:Fr}{x:Operand},Af Tryz.prog fr t x k=ob (ev fr x) fun v=>ob (at? v) fun p=>pr p fun b off=>some (.pointer (some ⟨b,off+n,none⟩))
abbrev FIo (t k o:Nat):Prop:=∀ {fr:Fr}{x:Operand},Wu Tryz.prog fr t x k=ob (ev fr x) fun v=>ob (rA v) fun cs=>ob (sub cs o 1) LL
abbrev FIn (t k o n:Nat):Prop:=∀ {fr:Fr}{x:Operand},Wu Tryz.prog fr t x k=ob (ev fr x) fun v=>ob (rA v) fun cs=>ob (sub cs o n) fun cs=>some (.agg ⟨cs⟩)
abbrev IAs (t w:Nat):Prop:=∀ {b off len cap i:Nat}{s:Option Nat},JC Tryz.prog t (.slice (some ⟨b,off,s⟩) len cap) i=bb (Nat.blt i len) (some (.pointer (some ⟨b,off+i*w,none⟩)))
abbrev APn (t w m e:Nat):Prop:=∀ {Z:St}{b:Option Addr}{len cap:Nat}{w':Value},Dj Tryz.prog Z t (.slice b len cap) w'=ob (Az Z w w') fun p=>pr p fun n new=>bi (Nat.ble (len+n) cap) (DD Z w b len cap n new) (bb (Nat.ble ((len+n)*m) room) (Bv e Z w b len n new))
abbrev SSn (t w:Nat):Prop:=∀ {b:Option Addr}{len cap:Nat}{lo hi:Option Value},Wp Tryz.prog t (.slice b len cap) lo hi=ob (dY len cap lo hi) fun p=>pr p fun lo hi=>sliceAt w b lo hi cap
abbrev SLn (t w:Nat) (z:List Value):Prop:=∀ {fr:Fr}{len:Nat}{parts:Array (Nat×Operand)},Gw Tryz.prog fr t len parts=ob (evs fr (parts.toList.map (·.2))) fun vs=>bb (Nat.ble (len*w) 16777216) (ob (DW (fun i=>some (i*w,w)) ((parts.toList.map (·.1)).zip vs) (rep z len)) fun l=>some (l,fun n=> .slice (some ⟨n,0,none⟩) len len))
abbrev MKn (t m:Nat) (z:List Value):Prop:=∀ {fr:Fr}{l c:Operand},RV Tryz.prog fr t l c=ob (evN fr l) fun l=>ob (evN fr c) fun c=>bb (Nat.ble l c) (bb (Nat.ble (c*m) room) (some (rep z c,fun n=> .slice (some ⟨n,0,none⟩) l c)))
abbrev BVn (t w n:Nat):Prop:=∀ {z:List Value}{ps:List (Nat×Value)},Dq Tryz.prog t z ps=ob (DW (fun i=>some (i*w,n)) ps z) fun l=>some (.agg ⟨l⟩)
end
section
variable {fr:Fr}{Z:St}{x ix a v:Operand}{ve:Value}
def ld3:LDo 3:=by unfold LDo;intros;kernel_rfl
def st3:STn 3 1:=by unfold STn;intros;kernel_rfl
def al3:j8 Tryz.prog 3=some ([.int .i64 0],ptrTo):=kR
def ld4:LDo 4:=by unfold LDo;intros;kernel_rfl
def st4:STn 4 1:=by unfold STn;intros;kernel_rfl
def ld9:LDo 9:=by unfold LDo;intros;kernel_rfl
def BL3:LDo 22:=by unfold LDo;intros;kernel_rfl
def BO9:IAs 22 1:=by unfold IAs;intros;kernel_rfl
def Av:APn 22 1 9 3:=by unfold APn;intros;kernel_rfl
def BP0:SSn 22 1:=by unfold SSn;intros;kernel_rfl
def BL4:SLn 22 1 [.int .i64 0]:=by unfold SLn;intros;kernel_rfl
def BL5:MKn 22 9 [.int .i64 0]:=by unfold MKn;intros;kernel_rfl
def BL6:LDo 25:=by unfold LDo;intros;kernel_rfl
def BL7:STn 25 1:=by unfold STn;intros;kernel_rfl
def BP1:IAs 25 2:=by unfold IAs;intros;kernel_rfl
def W8:APn 25 2 17 59:=by unfold APn;intros;kernel_rfl
def BL8:SLn 25 2 [.int .i64 0,.int .i64 0]:=by unfold SLn;intros;kernel_rfl
def BL9:LDo 26:=by unfold LDo;intros;kernel_rfl
def BM0:STn 26 1:=by unfold STn;intros;kernel_rfl
def BP2:IAs 26 5:=by unfold IAs;intros;kernel_rfl
def Y8:APn 26 5 49 57:=by unfold APn;intros;kernel_rfl
def BM1:SLn 26 5 [str [],.int .i64 0,.int .i64 0,.int .i64 0,.bool false]:=by unfold SLn;intros;kernel_rfl
def BM2:LDo 27:=by unfold LDo;intros;kernel_rfl
def BM3:STn 27 1:=by unfold STn;intros;kernel_rfl
def BP3:IAs 27 3:=by unfold IAs;intros;kernel_rfl
def X9:APn 27 3 41 61:=by unfold APn;intros;kernel_rfl
def BM4:SLn 27 3 [str [],str [],.int .i64 0]:=by unfold SLn;intros;kernel_rfl
def BM5:LDn 29 2:=by unfold LDn;intros;kernel_rfl
def BP4:LVn 29 2:=by unfold LVn;intros;kernel_rfl
def BM6:STn 29 2:=by unfold STn;intros;kernel_rfl
def BP5:j8 Tryz.prog 29=some ([.int .i64 0,.int .i64 0],ptrTo):=kR
def BP6:Bn Tryz.prog 29=some (.agg ⟨[.int .i64 0,.int .i64 0]⟩):=kR
def BP7:Dq Tryz.prog 29 z ps=ob (DW (fun i=>[(0,1),(1,1)][i]?) ps z) fun l=>some (.agg ⟨l⟩):=kR
def Af4:FAo 29 0:=by unfold FAo;intros;kernel_rfl
def Af5:FAn 29 1 1:=by unfold FAn;intros;kernel_rfl
def BM7:LDo 30:=by unfold LDo;intros;kernel_rfl
def BP8:IAs 30 5:=by unfold IAs;intros;kernel_rfl
def V7:APn 30 5 73 32:=by unfold APn;intros;kernel_rfl
def BM8:SLn 30 5 [str [],.int .i64 0,.int .i64 0,str [],.slice none 0 0]:=by unfold SLn;intros;kernel_rfl
def BM9:LDn 32 5:=by unfold LDn;intros;kernel_rfl
def BP9:LVn 32 5:=by unfold LVn;intros;kernel_rfl
def BN0:STn 32 5:=by unfold STn;intros;kernel_rfl
def BQ0:j8 Tryz.prog 32=some ([str [],.int .i64 0,.int .i64 0,str [],.slice none 0 0],ptrTo):=kR
def BQ1:Bn Tryz.prog 32=some (.agg ⟨[str [],.int .i64 0,.int .i64 0,str [],.slice none 0 0]⟩):=kR
def BQ2:Dq Tryz.prog 32 z ps=ob (DW (fun i=>[(0,1),(1,2),(3,1),(4,1)][i]?) ps z) fun l=>some (.agg ⟨l⟩):=kR
def Af6:FAo 32 0:=by unfold FAo;intros;kernel_rfl
def Af7:FAn 32 1 1:=by unfold FAn;intros;kernel_rfl
def Af8:FAn 32 2 3:=by unfold FAn;intros;kernel_rfl
def Af9:FAn 32 3 4:=by unfold FAn;intros;kernel_rfl
def BN1:LDo 33:=by unfold LDo;intros;kernel_rfl
def BN2:STn 33 1:=by unfold STn;intros;kernel_rfl
def BQ3:j8 Tryz.prog 33=some ([.slice none 0 0],ptrTo):=kR
def BQ4:IAs 33 1:=by unfold IAs;intros;kernel_rfl
def Y0:APn 33 1 17 9:=by unfold APn;intros;kernel_rfl
def BN3:SLn 33 1 [str []]:=by unfold SLn;intros;kernel_rfl
def BN4:LDo 34:=by unfold LDo;intros;kernel_rfl
def BN5:STn 34 1:=by unfold STn;intros;kernel_rfl
def BQ5:IAs 34 1:=by unfold IAs;intros;kernel_rfl
def V8:APn 34 1 25 22:=by unfold APn;intros;kernel_rfl
def BN6:SLn 34 1 [.slice none 0 0]:=by unfold SLn;intros;kernel_rfl
def BN7:LDn 36 5:=by unfold LDn;intros;kernel_rfl
def BN8:STn 36 5:=by unfold STn;intros;kernel_rfl
def BQ6:j8 Tryz.prog 36=some ([.int .i64 0,.int .i64 0,.int .i64 0,.int .i64 0,.int .i64 0],ptrTo):=kR
def Ag0:FAo 36 0:=by unfold FAo;intros;kernel_rfl
def Ag1:FAn 36 1 1:=by unfold FAn;intros;kernel_rfl
def Ag2:FAn 36 2 2:=by unfold FAn;intros;kernel_rfl
def Ag3:FAn 36 3 3:=by unfold FAn;intros;kernel_rfl
def Ag4:FAn 36 4 4:=by unfold FAn;intros;kernel_rfl
def BN9:LDn 38 20:=by unfold LDn;intros;kernel_rfl
def BQ7:LVn 38 20:=by unfold LVn;intros;kernel_rfl
def BO0:STn 38 20:=by unfold STn;intros;kernel_rfl
def BQ8:j8 Tryz.prog 38=some ([str [],.slice none 0 0,.slice none 0 0,.slice none 0 0,.int .i64 0,.int .i64 0,str [],.int .i64 0,.int .i64 0,str [],.slice none 0 0,.slice none 0 0,.int .i64 0,.slice none 0 0,.int .i64 0,.int .i64 0,.int .i64 0,.int .i64 0,.int .i64 0,.int .i64 0],ptrTo):=kR
def BQ9:Bn Tryz.prog 38=some (.agg ⟨[str [],.slice none 0 0,.slice none 0 0,.slice none 0 0,.int .i64 0,.int .i64 0,str [],.int .i64 0,.int .i64 0,str [],.slice none 0 0,.slice none 0 0,.int .i64 0,.slice none 0 0,.int .i64 0,.int .i64 0,.int .i64 0,.int .i64 0,.int .i64 0,.int .i64 0]⟩):=kR
def BR0:Dq Tryz.prog 38 z ps=ob (DW (fun i=>[(0,1),(1,1),(2,1),(3,1),(4,1),(5,1),(6,5),(11,1),(12,1),(13,1),(14,1),(15,5)][i]?) ps z) fun l=>some (.agg ⟨l⟩):=kR
def Ag5:FAo 38 0:=by unfold FAo;intros;kernel_rfl
def Ag6:FAn 38 1 1:=by unfold FAn;intros;kernel_rfl
def Ag7:FAn 38 2 2:=by unfold FAn;intros;kernel_rfl
def Ag8:FAn 38 3 3:=by unfold FAn;intros;kernel_rfl
def Ag9:FAn 38 4 4:=by unfold FAn;intros;kernel_rfl
def Ah0:FAn 38 5 5:=by unfold FAn;intros;kernel_rfl
def Ah1:FAn 38 6 6:=by unfold FAn;intros;kernel_rfl
def Ah2:FAn 38 7 11:=by unfold FAn;intros;kernel_rfl
def Ah3:FAn 38 8 12:=by unfold FAn;intros;kernel_rfl
def Ah4:FAn 38 9 13:=by unfold FAn;intros;kernel_rfl
def AI6:FAn 38 10 14:=by unfold FAn;intros;kernel_rfl
def AI7:FAn 38 11 15:=by unfold FAn;intros;kernel_rfl
def V9:APn 199 1 2 5:=by unfold APn;intros;kernel_rfl
def BO1:SLn 199 1 [.int .u8 0]:=by unfold SLn;intros;kernel_rfl
def BR1:LVo 41:=by unfold LVo;intros;kernel_rfl
def BO2:STn 41 1:=by unfold STn;intros;kernel_rfl
def BR2:j8 Tryz.prog 41=some ([.int .i64 0],ptrTo):=kR
def BR3:Bn Tryz.prog 59=some (.agg ⟨[.int .i64 0,.int .i64 0]⟩):=kR
def BR4:Dq Tryz.prog 59 z ps=ob (DW (fun i=>[(0,1),(1,1)][i]?) ps z) fun l=>some (.agg ⟨l⟩):=kR
def Ah5:FAo 59 0:=by unfold FAo;intros;kernel_rfl
def Ah6:FAn 59 1 1:=by unfold FAn;intros;kernel_rfl
def BO3:LDn 57 5:=by unfold LDn;intros;kernel_rfl
def BO4:STn 57 5:=by unfold STn;intros;kernel_rfl
def BR5:j8 Tryz.prog 57=some ([str [],.int .i64 0,.int .i64 0,.int .i64 0,.bool false],ptrTo):=kR
def BR6:Bn Tryz.prog 57=some (.agg ⟨[str [],.int .i64 0,.int .i64 0,.int .i64 0,.bool false]⟩):=kR
def BR7:Dq Tryz.prog 57 z ps=ob (DW (fun i=>[(0,1),(1,1),(2,1),(3,1),(4,1)][i]?) ps z) fun l=>some (.agg ⟨l⟩):=kR
def Ah7:FAo 57 0:=by unfold FAo;intros;kernel_rfl
def Ah8:FAn 57 1 1:=by unfold FAn;intros;kernel_rfl
def Ah9:FAn 57 2 2:=by unfold FAn;intros;kernel_rfl
def Ai0:FAn 57 3 3:=by unfold FAn;intros;kernel_rfl
def Ai1:FAn 57 4 4:=by unfold FAn;intros;kernel_rfl
def BO5:LDn 61 3:=by unfold LDn;intros;kernel_rfl
def BO6:STn 61 3:=by unfold STn;intros;kernel_rfl
def BR8:j8 Tryz.prog 61=some ([str [],str [],.int .i64 0],ptrTo):=kR
def BR9:Bn Tryz.prog 61=some (.agg ⟨[str [],str [],.int .i64 0]⟩):=kR
def BS0:Dq Tryz.prog 61 z ps=ob (DW (fun i=>[(0,1),(1,1),(2,1)][i]?) ps z) fun l=>some (.agg ⟨l⟩):=kR
def Ai2:FAo 61 0:=by unfold FAo;intros;kernel_rfl
def Ai3:FAn 61 1 1:=by unfold FAn;intros;kernel_rfl
def Ai4:FAn 61 2 2:=by unfold FAn;intros;kernel_rfl
def W0:APn 154 2 25 194:=by unfold APn;intros;kernel_rfl
def Ay2:LDo 101:=by unfold LDo;intros;kernel_rfl
def L7:APn 281 1 9 171:=by unfold APn;intros;kernel_rfl
def Ay3:LDn 103 3:=by unfold LDn;intros;kernel_rfl
def Ay8:LVn 103 3:=by unfold LVn;intros;kernel_rfl
def Ay4:STn 103 3:=by unfold STn;intros;kernel_rfl
def Ay9:j8 Tryz.prog 103=some ([.bool false,.int .u64 0,.int .u64 0],ptrTo):=kR
def Az0:Bn Tryz.prog 103=some (.agg ⟨[.bool false,.int .u64 0,.int .u64 0]⟩):=kR
def Az1:Dq Tryz.prog 103 z ps=ob (DW (fun i=>[(0,1),(1,1),(2,1)][i]?) ps z) fun l=>some (.agg ⟨l⟩):=kR
def AI8:FAo 103 0:=by unfold FAo;intros;kernel_rfl
def AI9:FAn 103 1 1:=by unfold FAn;intros;kernel_rfl
def AJ0:FAn 103 2 2:=by unfold FAn;intros;kernel_rfl
def Ay5:LDn 107 2:=by unfold LDn;intros;kernel_rfl
def Az2:LVn 107 2:=by unfold LVn;intros;kernel_rfl
def Ay6:STn 107 2:=by unfold STn;intros;kernel_rfl
def Az3:j8 Tryz.prog 107=some ([.int .u64 0,.int .u64 0],ptrTo):=kR
def Az4:Bn Tryz.prog 107=some (.agg ⟨[.int .u64 0,.int .u64 0]⟩):=kR
def Az5:Dq Tryz.prog 107 z ps=ob (DW (fun i=>[(0,1),(1,1)][i]?) ps z) fun l=>some (.agg ⟨l⟩):=kR
def AJ1:FAo 107 0:=by unfold FAo;intros;kernel_rfl
def AJ2:FAn 107 1 1:=by unfold FAn;intros;kernel_rfl
def Ak3:Bn Tryz.prog 72=some (.agg ⟨[.slice none 0 0,.int .i64 0]⟩):=kR
def Ak4:Dq Tryz.prog 72 z ps=ob (DW (fun i=>[(0,1),(1,1)][i]?) ps z) fun l=>some (.agg ⟨l⟩):=kR
def xB:FAo 72 0:=by unfold FAo;intros;kernel_rfl
def xC:FAn 72 1 1:=by unfold FAn;intros;kernel_rfl
def Ai5:LDn 88 4:=by unfold LDn;intros;kernel_rfl
def Ak5:LVn 88 4:=by unfold LVn;intros;kernel_rfl
def Ai6:STn 88 4:=by unfold STn;intros;kernel_rfl
def Ak6:j8 Tryz.prog 88=some ([.int .i64 0,.int .i64 0,.int .i64 0,.int .i64 0],ptrTo):=kR
def Ak7:Bn Tryz.prog 88=some (.agg ⟨[.int .i64 0,.int .i64 0,.int .i64 0,.int .i64 0]⟩):=kR
def Ak8:Dq Tryz.prog 88 z ps=ob (DW (fun i=>[(0,2),(2,2)][i]?) ps z) fun l=>some (.agg ⟨l⟩):=kR
def xD:FAo 88 0:=by unfold FAo;intros;kernel_rfl
def xE:FAn 88 1 2:=by unfold FAn;intros;kernel_rfl
def Ai7:LDo 85:=by unfold LDo;intros;kernel_rfl
def Ai8:STn 85 1:=by unfold STn;intros;kernel_rfl
def Ak9:j8 Tryz.prog 85=some ([.map none],ptrTo):=kR
def BO7:LDo 46:=by unfold LDo;intros;kernel_rfl
def BO8:STn 46 1:=by unfold STn;intros;kernel_rfl
def BS1:j8 Tryz.prog 46=some ([.nilFunc],ptrTo):=kR
def Ai9:LDn 130 4:=by unfold LDn;intros;kernel_rfl
def Aj0:STn 130 4:=by unfold STn;intros;kernel_rfl
def Al0:j8 Tryz.prog 130=some ([.int .i64 0,.int .i64 0,.int .i64 0,.int .i64 0],ptrTo):=kR
def Al1:Bn Tryz.prog 130=some (.agg ⟨[.int .i64 0,.int .i64 0,.int .i64 0,.int .i64 0]⟩):=kR
def Al2 {b off i:Nat}:JC Tryz.prog 130 (.pointer (some ⟨b,off,none⟩)) i=bb (Nat.blt i 2) (some (.pointer (some ⟨b,off+i*2,none⟩))):=kR
def Al3:BVn 130 2 2:=by unfold BVn;intros;kernel_rfl
def Al4:IAs 129 4:=by unfold IAs;intros;kernel_rfl
def I4:APn 129 4 33 130:=by unfold APn;intros;kernel_rfl
def Aj1:SLn 129 4 [.int .i64 0,.int .i64 0,.int .i64 0,.int .i64 0]:=by unfold SLn;intros;kernel_rfl
def Al5:IAs 133 2:=by unfold IAs;intros;kernel_rfl
def J5:APn 133 2 17 29:=by unfold APn;intros;kernel_rfl
def Aj2:SLn 133 2 [.int .i64 0,.int .i64 0]:=by unfold SLn;intros;kernel_rfl
def Aj3:LDo 136:=by unfold LDo;intros;kernel_rfl
def Aj4:STn 136 1:=by unfold STn;intros;kernel_rfl
def Al6:j8 Tryz.prog 136=some ([.slice none 0 0],ptrTo):=kR
def Al7:IAs 136 4:=by unfold IAs;intros;kernel_rfl
def J3:APn 136 4 33 88:=by unfold APn;intros;kernel_rfl
def Al8:SSn 136 4:=by unfold SSn;intros;kernel_rfl
def Aj5:SLn 136 4 [.int .i64 0,.int .i64 0,.int .i64 0,.int .i64 0]:=by unfold SLn;intros;kernel_rfl
def I5:APn 173 2 17 81:=by unfold APn;intros;kernel_rfl
def Al9:IAs 164 1:=by unfold IAs;intros;kernel_rfl
def I6:APn 164 1 2 4:=by unfold APn;intros;kernel_rfl
def Aj6:SLn 164 1 [.bool false]:=by unfold SLn;intros;kernel_rfl
def Aj7:LDo 91:=by unfold LDo;intros;kernel_rfl
def Aj8:LDo 93:=by unfold LDo;intros;kernel_rfl
def Aj9:LDo 131:=by unfold LDo;intros;kernel_rfl
def Ak0:STn 131 1:=by unfold STn;intros;kernel_rfl
def Am0:j8 Tryz.prog 131=some ([.nilFunc],ptrTo):=kR
def Ak1:LDo 134:=by unfold LDo;intros;kernel_rfl
def Ak2:STn 134 1:=by unfold STn;intros;kernel_rfl
def Am1:j8 Tryz.prog 134=some ([.nilFunc],ptrTo):=kR
end
end
end Go.Proofs.T
namespace Go.Proofs
open Go.Shelf
def Tryz.PV:Go.Shelf.Ren:=⟨fun|156=>159|165=>197|166=>158|169=>160|240=>196|241=>225|276=>224|277=>254|n=>n,fun|31=>33|9=>9|3=>3|4=>4|0=>0|20=>20|72=>201|76=>204|70=>198|37=>199|75=>203|127=>234|164=>259|5=>5|80=>209|n=>n,fun|n=>n⟩
def Tryz.hU:Go.Proofs.Lays.n156 Tryz.prog Tryz.PV:={
 mixed:=by kernel_rfl
 f156:=Tryz.func159.trans (congrArg some (by kernel_rfl))
 f165:=Tryz.func197.trans (congrArg some (by kernel_rfl))
 f166:=Tryz.func158.trans (congrArg some (by kernel_rfl))
 f169:=Tryz.func160.trans (congrArg some (by kernel_rfl))
 f240:=Tryz.func196.trans (congrArg some (by kernel_rfl))
 f241:=Tryz.func225.trans (congrArg some (by kernel_rfl))
 f276:=Tryz.func224.trans (congrArg some (by kernel_rfl))
 f277:=Tryz.func254.trans (congrArg some (by kernel_rfl))
 t0:=Tryz.underlying0
 a0:=Tryz.isAgg0
 z0:=Tryz.sizeOf0
 v0:=Tryz.zeroValue0
 t3:=Tryz.underlying3
 a3:=Tryz.isAgg3
 z3:=Tryz.sizeOf3
 v3:=Tryz.zeroValue3
 t4:=Tryz.underlying4
 a4:=Tryz.isAgg4
 z4:=Tryz.sizeOf4
 v4:=Tryz.zeroValue4
 t9:=Tryz.underlying9
 a9:=Tryz.isAgg9
 z9:=Tryz.sizeOf9
 v9:=Tryz.zeroValue9
 t20:=Tryz.underlying20
 a20:=Tryz.isAgg20
 z20:=Tryz.sizeOf20
 v20:=Tryz.zeroValue20
 t31:=Tryz.underlying33
 a31:=Tryz.isAgg33
 z31:=Tryz.sizeOf33
 v31:=Tryz.zeroValue33
 t37:=Tryz.underlying199
 a37:=Tryz.isAgg199
 z37:=Tryz.sizeOf199
 v37:=Tryz.zeroValue199
 t70:=Tryz.underlying198
 a70:=Tryz.isAgg198
 z70:=Tryz.sizeOf198
 v70:=Tryz.zeroValue198
 t72:=Tryz.underlying201
 a72:=Tryz.isAgg201
 z72:=Tryz.sizeOf201
 v72:=Tryz.zeroValue201
 t75:=Tryz.underlying203
 a75:=Tryz.isAgg203
 z75:=Tryz.sizeOf203
 v75:=Tryz.zeroValue203
 t76:=Tryz.underlying204
 a76:=Tryz.isAgg204
 z76:=Tryz.sizeOf204
 v76:=Tryz.zeroValue204
 t127:=Tryz.underlying234
 a127:=Tryz.isAgg234
 z127:=Tryz.sizeOf234
 v127:=Tryz.zeroValue234
 t164:=Tryz.underlying259
 a164:=Tryz.isAgg259
 z164:=Tryz.sizeOf259
 v164:=Tryz.zeroValue259 }
def Tryz.AN2:Builder.Extra Tryz.prog Tryz.PV:={
 sizeBuilder:=by kernel_rfl
 liesBuilder:=by kernel_rfl
 t5:=Tryz.underlying5
 a5:=Tryz.isAgg5
 z5:=Tryz.sizeOf5
 v5:=Tryz.zeroValue5
 infoByte:=by kernel_rfl
 cellsByte:=by kernel_rfl
 sizeByte:=by kernel_rfl
 neB5:=by decide }
end Go.Proofs
namespace Go.Proofs.T
open Go Go.Ab Go.RowKit
def nU {P:Program}{e s m:Nat}(f:Nat.ble 1 P.depth=true) (h:P.cellsOf e=s) (b:0<s) (i:s<=m):liesAt P P.depth e (m / P.cellsOf e) 0 e 1=true:=by
 obtain⟨d,a⟩:∃ d,P.depth=d+1:=⟨P.depth-1,by have:=Jo f;omega⟩
 rw[a];unfold liesAt;rw[a];have c:1<=m / s:=(Nat.le_div_iff_mul_le b).2 om;have g:rowAt P (sameLayout P (d+1) · e) (d+1) e (m / P.cellsOf e) 0 1=true:=by
  unfold rowAt;rw[h];simp only[z0z (show ¬ s=0 by omega),Nat.zero_div,se,beq_self_eq_true,Io];have:sameLayout P (d+1) e e=true:=by unfold sameLayout;simp
  rw[this];simp[c]
 rw[g];rfl
def fj (c:Nat) (w:World) (b:w.cell? ⟨c,0,none⟩=some (.pointer (some ⟨c,0,none⟩))) :
  Calls Tryz.prog 196 #[.pointer (some ⟨c,0,none⟩)] w fun e w'=>e= .returned (.tuple #[])/\w'=w:=by
 obtain⟨j,a,_⟩:=ui.1 (show(Tryz.prog.info? 201).map (·.size)=some 2 by kernel_rfl)
 go_enter Tryz.func196,Tryz.ntmps196
 go_wp2
 rw[Lib.run_neq_ptr_same w _ Tryz.underlying198 a]
 go_wp2
 go_end0
 exact⟨rfl,rfl⟩
def bP (c m:Nat) (w:World) (h:w.cell? ⟨c,0,none⟩=some (.pointer none)) (a:w.shape? c=some (201,m)) (g:2<=m) (f:w.frozen? ⟨c,0,none⟩=false) :
  Calls Tryz.prog 196 #[.pointer (some ⟨c,0,none⟩)] w fun e w'=>e= .returned (.tuple #[])/\w'=w.setCell ⟨c,0,none⟩ (.pointer (some ⟨c,0,none⟩)):=by
 obtain⟨j,d,b⟩:=ui.1 (show(Tryz.prog.info? 201).map (·.size)=some 2 by kernel_rfl)
 go_enter Tryz.func196,Tryz.ntmps196
 go_wp2
 rw[Lib.run_to_unsafe w ⟨c,0,none⟩ Tryz.underlying198 Tryz.underlying259 d (by rw[b];decide) a (by show 0<m;omega)];simp only[Result.andThen];rw[uj]
 go_wp2
 rw[run_callFunc_extern Tryz.func224 kR kR kR (e:=Extern.AbiNoEscape.same) kR];rw[Lib.run_noEscape];simp only[Result.andThen];rw[uj]
 go_wp2
 rw[Lib.run_from_unsafe w ⟨c,0,none⟩ Tryz.underlying259 Tryz.underlying198 d a (nU kR (s:=2) kR om g)];simp only[Result.andThen];rw[uj]
 go_wp2
 go_end0
 exact⟨rfl,rfl⟩
def fm (c g a cells:Nat) (l:List UInt8) (w:World) (n:w.cell? ⟨c,1,none⟩=some (.slice (some ⟨g,0,none⟩) l.length a)) (h:l.length<=a) (d:w.shape? g=some (5,cells)) (f:l≠[]) (o:l.length<=cells) (b:l.length<=9223372036854775807)
  (i:∀ j x,l[j]? =some x->w.cell? ((⟨g,0,none⟩:Addr).add j)=some (.int .u8 x.toNat)) :
  Calls Tryz.prog 160 #[.pointer (some ⟨c,0,none⟩)] w fun e w'=>e= .returned (.string ⟨l.toArray⟩)/\w'=w.drew.freeze ⟨g,0,none⟩ l.length:=by
 have p:l.length≠0:=by simpa using f
 have c1:w.drew.cell? ⟨c,1,none⟩=some (.slice (some ⟨g,0,none⟩) l.length a):=n
 have k:(Builtin.unsafeSliceData_ #[199] 234 #[.slice (some ⟨g,0,none⟩) l.length a]).run Tryz.prog w.drew= .ok (.pointer (some ⟨g,0,none⟩)) w.drew :=
  Lib.run_unsafeSliceData_row _ _ _ _ _ _ om
 have m:(Builtin.unsafeString_ #[234,3] 9 #[.pointer (some ⟨g,0,none⟩),.int .i64 l.length]).run Tryz.prog w.drew= .ok (.string ⟨l.toArray⟩) (w.drew.freeze ⟨g,0,none⟩ l.length) :=
  Lib.run_unsafeString_row w.drew 234 3 9 5 Tryz.underlying234 kR g cells d l f o b i
 have mixed:Tryz.prog.follows .mixedOrders=true:=kR
 go_enter Tryz.func160,Tryz.ntmps160
 go_wp2
 go_region_o
 all_goals (go_wp2;go_ret;exact⟨rfl,rfl⟩)
end Go.Proofs.T
namespace Go.Proofs.T
open Go Go.Ab
section
variable {e:Operand->Value}{v p u:Value}{x:Operand}
def Aq6 (x:Value) (w:World):(invoke (.fn (.func 149) #[x]) #[]).run Tryz.prog w= .ok (.enter 149 #[x]) w:=by
 have b:Tryz.prog.funcs[149]? =some Tryz.f149:=Tryz.func149;simp[invoke,callFunc,Sem.run_bind,run_program,Result.andThen_ok,b];rw[z0z (z9z kR),z0z (by intro h;cases h)]
def yO (Q:Exit->Act->World->Prop) (a:Act) (w:World) (x:Value) (r:7<=a.tmps.size) (l:a.tmps[2]? =some x) (h:Q .normal (deferred a 3 149 x) w){f g:String}{c d:Array Edge}{i j k:Nat}:
  (Code.region i #[⟨some 3,.makeFunc (.func 149) #[] #[.tmp 2],j,f,c,none⟩,⟨none,.defer ⟨.value (.tmp 3),#[],#[]⟩,k,g,d,none⟩] false).wpIn Fence.wide 0 Tryz.prog Q a w:=by
 refine wpIn_region_list ?_;simp only[wpListIn,Region.wanted,FB];refine⟨fun _ _=>trivial,?_⟩;have m:(Oper.semAt Fence.wide.round a.eval ⟨some 3,.makeFunc (.func 149) #[] #[.tmp 2],j,f,c,none⟩).run Tryz.prog w= .ok (.value (.func (.func 149) #[] #[x])) w:=by
  simp[Fence.wide,Oper.semAt_none,execOp,Instr.makeFunc,Act.eval,l]
 rw[m];show Oper.wpIn _ _ _ _ _ _ _ _;refine⟨fun _ _=>trivial,?_⟩;have q:(Oper.semAt Fence.wide.round (a.put (some 3) (.func (.func 149) #[] #[x])).eval ⟨none,.defer ⟨.value (.tmp 3),#[],#[]⟩,k,g,d,none⟩).run Tryz.prog w= .ok (.defer { target:= .fn (.func 149) #[x],args:=#[] }) w:=by
  have b:(a.put (some 3) (.func (.func 149) #[] #[x])).tmps[3]? =some (.func (.func 149) #[] #[x]):=by
   show(a.tmps.setIfInBounds 3 _)[3]? =_;rw[Array.getElem?_setIfInBounds,z1z rfl,z1z om]
  simp[Fence.wide,Oper.semAt_none,execOp,Act.eval,b,resolve,Deferred.ofValue]
 rw[q];exact h
def de (x:Value) (w:World):CallsDIn Fence.wide 0 Tryz.prog 149 #[x] .returning w fun e u' w'=>(∃ v,e= .returned v)/\u'= .returning/\w'=w:=by
 refine callsDIn_of_wpSIn Tryz.func149 rfl trivial fun b cs c=>?_;apply wpSIn_seq;apply wpSIn_region;simp[wpOpsSIn,go_sem,recoverD,c,Tryz.ntmps149,Exit.thenS];apply wpSIn_seq;apply wpSIn_region;have d:Tryz.prog.underlying 20=some (.interface #[]):=Tryz.underlying20;have f:∀ w:World,(Op.equalIn Op.maxDepth 20 .nilIface .nilIface).run Tryz.prog w= .ok true w:=fun w=>Fc _ (show O8 Tryz.prog (Op.equalIn Op.maxDepth 20 .nilIface .nilIface)=some true by kernel_rfl) w;simp[wpOpsSIn,go_sem,recoverD,c,Tryz.ntmps149,Exit.thenS,eqGuard,binOp,Op.equal,d,f];refine wpSIn_cond (t:=false) (by simp[Act.eval,Array.replicate]) ?_;refine wpSIn_of_wpIn rfl (wpIn_skip ?_);simp[bodyPostS,results,go_sem,c];cases b;cases c;rfl
section
variable {P:Program}{n:Nat}{Q:Exit->Act->List Frame->World->Prop}{a:Act}{cs:List Frame}{w w':World}{ops:Array Oper}{i:Nat}{N7:List Nat}{o:Oper}
def opS (c:ops[i]? =some o) (b:o.guard=none) (h:(execOp a.eval o).run P w= .ok (.value v) w') (k:wpOpsSIn Fence.wide n P ops Q N7 (a.put o.dst v) cs w'):wpOpsSIn Fence.wide n P ops Q (i::N7) a cs w:=by
 simp only[wpOpsSIn,c,Region.wanted,b,FB,h];exact⟨fun _ _=>trivial,k⟩
def Aq7 (c:ops[i]? =some o) (b:o.guard=none) (h:(execOp a.eval o).run P w= .ok .skip w') (k:wpOpsSIn Fence.wide n P ops Q N7 (a.put o.dst undef) cs w'):wpOpsSIn Fence.wide n P ops Q (i::N7) a cs w:=by
 simp only[wpOpsSIn,c,Region.wanted,b,FB,h];exact⟨fun _ _=>trivial,k⟩
def SH {t:TypeId}{y:Operand}(b:o.op= .store t x y)(c:e x=p) (d:e y=v) (h:(Instr.storeAt t p v).run P w= .ok () w'):(execOp e o).run P w= .ok .skip w':=by
 simp only[execOp,b,c,d,Sem.run_bind,h];rfl
def lP {t:TypeId}(b:o.op= .load t x)(c:e x=p) (h:(Instr.loadAt t p).run P w= .ok u w'):(execOp e o).run P w= .ok (.value u) w':=by
 simp only[execOp,b,c,Sem.run_bind,h];rfl
def dh {t:TypeId}(b:o.op= .alloc t)(h:(Instr.alloc t true (.tuple #[])).run P w= .ok u w'):(execOp e o).run P w= .ok (.value u) w':=by
 simp only[execOp,b,Sem.run_bind,h];rfl
end
def ZK (x v:Value) (w w':World) (h:Om Tryz.prog 151 x v w w'):CallsDIn Fence.wide 0 Tryz.prog 149 #[x] (.panicking [{ v:= .iface 151 v,recovered:=false }]) w fun e u' w''=>(∃ v,e= .returned v)/\settle u'= .returning/\w''=w':=by
 obtain⟨m,q,u,g,j,k,l⟩:=h;refine callsDIn_of_wpSIn Tryz.func149 rfl trivial fun b cs c=>?_;apply wpSIn_seq;apply wpSIn_region;simp[wpOpsSIn,go_sem,recoverD,c,Tryz.ntmps149,Exit.thenS];apply wpSIn_seq;apply wpSIn_region;have d:Tryz.prog.underlying 20=some (.interface #[]):=Tryz.underlying20;have f:∀ w:World,(Op.equalIn Op.maxDepth 20 (.iface 151 v) .nilIface).run Tryz.prog w= .ok false w:=fun w=>Fc _ (show O8 Tryz.prog (Op.equalIn Op.maxDepth 20 (.iface 151 v) .nilIface)=some false by kernel_rfl) w;simp[wpOpsSIn,go_sem,recoverD,c,Tryz.ntmps149,Exit.thenS,eqGuard,binOp,Op.equal,d,f];refine wpSIn_cond (t:=true) (by simp[Act.eval,Array.replicate]) ?_;simp only[FB];apply wpSIn_seq;apply wpSIn_region;show wpOpsSIn _ _ _ _ _ [0,1,2,3,4,5,6,7] _ _ _;refine opS rfl rfl (by simp[go_sem];exact⟨rfl,rfl⟩) ?_;refine opS rfl rfl (by simp[go_sem,Instr.typeAssert];exact⟨rfl,rfl⟩) ?_;refine opS rfl rfl (by simp[go_sem];exact⟨rfl,rfl⟩) ?_;refine opS rfl rfl (by simp[go_sem];exact⟨rfl,rfl⟩) ?_;refine opS rfl rfl (by simp[go_sem];exact⟨rfl,rfl⟩) ?_;refine opS rfl rfl (dh rfl g) ?_;refine Aq7 rfl rfl (SH rfl (by simp[go_sem]) (by simp[go_sem]) j) ?_;refine opS rfl rfl (by simp[go_sem];exact⟨rfl,rfl⟩) ?_;apply wpSIn_seq;apply wpSIn_seq;apply wpSIn_region;show wpOpsSIn _ _ _ _ _ [0,1] _ _ _;refine opS rfl rfl (by simp[go_sem];exact⟨rfl,rfl⟩) ?_;refine opS rfl rfl (by simp[go_sem];first|rfl|exact⟨rfl,rfl⟩) ?_;refine wpSIn_cond (t:=false) (by simp[go_sem]) ?_;refine wpSIn_of_wpIn rfl (wpIn_skip ?_);apply wpSIn_region;show wpOpsSIn _ _ _ _ _ [0,1] _ _ _;refine opS rfl rfl (lP rfl (by simp[go_sem]) k) ?_;refine Aq7 rfl rfl (SH rfl (by simp[go_sem]) (by simp[go_sem]) l) ?_;show bodyPostS _ _ _ _ _ .normal _ _ _;simp[bodyPostS,results,go_sem,c];cases b;cases c;rfl
noncomputable def parts:Code×Code×Code×Code:=match Tryz.f109.body with
 |some (.seq a (.seq b (.seq c (.seq d .ret))))=>(a,b,c,d)
 |_=>(.skip,.skip,.skip,.skip)
noncomputable def iU:qu:=qw Tryz.prog parts.1 parts.2.2.1 parts.2.2.2 3 2 151 151 [.cell 2 151]
def di {B8:Env}{G:Nat}(b:codeOk Tryz.prog 7 G parts.1=true/\codeOk Tryz.prog 7 G parts.2.2.1=true/\codeOk Tryz.prog 7 G parts.2.2.2=true){run:RunT}(l:OX Tryz.prog B8 G run){c:List Value}{Z:St}{r:CR}(h:iU.f run c Z=some r):
  Adv Z r.Z/\∀ O w vs' N,Rel B8 O Z w->Co O Z.n N->r.Z.n<=N->Bw O G->F8 O c vs'->CW Tryz.prog B8 O 109 vs' Z w r :=
 dj (c1:=parts.2.1) (k:=149) Tryz.func109 kR rfl (fun Q a w x d g j=>yO Q a w x d g j) Aq6 de ZK b.1 b.2.1 b.2.2 l h
end
end Go.Proofs.T
namespace Go.Proofs.T
open Go Go.Ab Go.RowKit
section
variable {vs:List Value}{Z:St}{r:CR}
noncomputable def ckF (vs:List Value) (Z:St):Option CR:=match vs with
 | [.pointer (some ⟨b,0,none⟩)]=>ob (Z.typ b) fun t=>bb (Nat.beq t 201) (ob (Z.read b 0 2) fun cs=>(match cs with
   | [.pointer none,_]=>ob (Z.write b 0 [.pointer (some ⟨b,0,none⟩)]) fun Z=>some ⟨false,.tuple #[],Z⟩
   | [.pointer (some ⟨c,0,none⟩),_]=>bb (Nat.beq c b) (some ⟨false,.tuple #[],Z⟩)
   |_=>none))
 |_=>none
noncomputable def xA (v:Value):Option UInt8:=match v with
 | .int .u8 (.ofNat n)=>bb (Nat.blt n 256) (some (UInt8.ofNat n))
 |_=>none
noncomputable def gR (l:List Value):Option (List UInt8) :=
 List.rec (motive:=fun _=>Option (List UInt8)) (some []) (fun v _ a=>ob (xA v) fun b=>ob a fun bs=>some (b::bs)) l
noncomputable def Af2 (vs:List Value) (Z:St):Option CR:=match vs with
 | [.pointer (some ⟨b,0,none⟩)]=>ob (Z.typ b) fun t=>bb (Nat.beq t 201) (ob (Z.read b 0 2) fun cs=>(match cs with
   | [_,.slice (some ⟨g,0,_⟩) (n+1) k]=>ob (Z.typ g) fun t=>bb (Nat.beq t 5) (bb (Nat.ble (n+1) k) (bb (Nat.ble n room) (ob (Z.read g 0 (n+1)) fun cs=>ob (gR cs) fun l=>ob (Z.kill g) fun Z=>some ⟨false,.string ⟨l.toArray⟩,Z⟩)))
   |_=>none))
 |_=>none
section
variable {B8:Env}{G:Nat}
def PN {O:Ab.Place}{w:World}{q:BU}{cells:List Value}{v1 v2:Value}(j:Row B8 O w q cells) (k:q.o=0) (n:sub cells 0 2=some [v1,v2]):
  2<=q.m/\(∃ u,w.cell? ⟨q.c,0,none⟩=some u/\I0 O v1 u)/\∃ u,w.cell? ⟨q.c,1,none⟩=some u/\I0 O v2 u:=by
 obtain⟨arr,e,lo,hi,a,s,f,v,y,b⟩:=j;obtain⟨s1,s2⟩:=sub_eq n;have h:cells[0]? =some v1:=by
  have:=congrArg (fun l:List Value=>l[0]?) s2
  simpa using this.symm
 have i:cells[1]? =some v2:=by
  have:=congrArg (fun l:List Value=>l[1]?) s2
  simpa using this.symm
 obtain⟨p,d,g⟩:=b 0 v1 h;obtain⟨u2,b3,b4⟩:=b 1 v2 i;rw[k]at d b3 f;exact⟨om,⟨p,by rw[It a];exact d,g⟩,u2,by rw[It a];exact b3,b4⟩
def Af3 (h:ckF vs Z=some r):Adv Z r.Z/\∀ O w vs' N,Rel B8 O Z w->Co O Z.n N->r.Z.n<=N->Bw O G->F8 O vs vs'->CW Tryz.prog B8 O 196 vs' Z w r:=by
 unfold ckF at h;split at h
 ·rename_i b;obtain⟨t,y,z⟩:=A8 h;clear h;obtain⟨g2,h2⟩:=H9 z;clear z;obtain rfl:=Ai g2;obtain⟨cs,g3,h⟩:=A8 h2;clear h2;obtain⟨B,hB,GL⟩:=W7 g3;split at h
  ·rename_i K;obtain⟨Z',g,h⟩:=A8 h;cases h;refine⟨.write g,fun O w vs' N a D F E d=>?_⟩;cases d with
   |cons p d=>
   cases d;cases p with
   |I3 hs=>simp[I3]at hs
   | @ptr _ _ q hq=>
   obtain⟨i,arr,f,j⟩:=a.typ hq ⟨B,(AH hB).1⟩ y;have v:=a.row b q B hq hB;obtain⟨h2,⟨u,hu,hur⟩,_⟩:=PN v i GL;have s:u= .pointer none:=by cases hur with|I3 hs=>rfl
   subst s;obtain⟨L,A,C⟩:=a.write hq g (vs':=[.pointer (some ⟨q.c,0,none⟩)]) (.cons (by have:=I0.ptr (off:=0) hq;rwa [i]at this) .nil) (by simp[L8]);obtain⟨Av0,e,lo,hi,a1,a0,a2,a3,a4,a5⟩:=v;rw[j]at a1;cases a1;obtain⟨B',cs',hr1,BL1,_⟩:=Jv g;rw[hB]at hr1;cases hr1;have l:=a3 (a.own b q B hq (AH hB).1 BL1);have k:w.frozen? ⟨q.c,0,none⟩=false:=by
    simp only[World.frozen?,j];rcases l with J|J
    ·simp;omega
    ·simp;omega
   have I:Lx w q.c (q.o+0) [.pointer (some ⟨q.c,0,none⟩)]=w.setCell ⟨q.c,0,none⟩ (.pointer (some ⟨q.c,0,none⟩)):=by rw[i];rfl
   rw[I]at A C;have H:=bP q.c q.m w hu (by simp[World.shape?,j,a0]) h2 k;rw[show q.o+0=0 from by omega];exact Kx Tryz.func196 kR rfl H A C (.tuple .nil)
  ·rename_i c K;obtain⟨g,h⟩:=H9 h;cases h;obtain rfl:=Ai g;refine⟨.refl _,fun O w vs' N a D F E d=>?_⟩;cases d with
   |cons p d=>
   cases d;cases p with
   |I3 hs=>simp[I3]at hs
   | @ptr _ _ q hq=>
   obtain⟨i,arr,f,j⟩:=a.typ hq ⟨B,(AH hB).1⟩ y;obtain⟨h2,⟨u,hu,hur⟩,_⟩:=PN (a.row _ q B hq hB) i GL;cases hur with
   |I3 hs=>simp[I3]at hs
   | @ptr _ _ q' hq'=>
   rw[hq]at hq';cases hq';rw[show q.o+0=0 from by omega]at hu ⊢;exact Kx Tryz.func196 kR rfl (fj q.c w hu) a (.refl _ _ _) (.tuple .nil)
  ·cases h
 ·cases h
def oT:∀ {cs:List Value}{l:List UInt8},gR cs=some l->cs.length=l.length/\∀ (j:Nat) (x:UInt8),l[j]? =some x->cs[j]? =some (Value.int .u8 x.toNat):=by
 intro cs;induction cs with
 |nil=>intro l h;cases h;exact⟨rfl,fun j x h=>by simp at h⟩
 | cons v cs ih=>
   intro l h;obtain⟨b,a,h⟩:=A8 (show ob (xA v) (fun b=>ob (gR cs) fun bs=>some (b::bs))=some l from h);obtain⟨bs,h2,h⟩:=A8 h;cases h;obtain⟨e1,e2⟩:=ih h2;refine⟨by simp[e1],fun j x c=>?_⟩;cases j with
   | zero=>
     simp at c;subst c;unfold xA at a;split at a
     ·rename_i n;obtain⟨d,e⟩:=H9 a;cases e;rw[BW]at d;show some (Value.int .u8 (n:Nat))=some (Value.int .u8 ((UInt8.ofNat n).toNat:Nat));rw[show(UInt8.ofNat n).toNat=n from by simp[UInt8.toNat_ofNat'];omega]
     ·cases a
   |succ j=>simpa using e2 j x (by simpa using c)
def AI4 (h:Af2 vs Z=some r):Adv Z r.Z/\∀ O w vs' N,Rel B8 O Z w->Co O Z.n N->r.Z.n<=N->Bw O G->F8 O vs vs'->CW Tryz.prog B8 O 160 vs' Z w r:=by
 unfold Af2 at h;split at h
 ·rename_i b;obtain⟨t,V,s⟩:=A8 h;clear h;obtain⟨g2,h2⟩:=H9 s;clear s;obtain rfl:=Ai g2;obtain⟨cs,g3,h⟩:=A8 h2;clear h2;obtain⟨B,hB,GL⟩:=W7 g3;split at h
  ·rename_i v1 g sp n k;obtain⟨t,W,s⟩:=A8 h;clear h;obtain⟨g5,h2⟩:=H9 s;clear s;obtain rfl:=Ai g5;obtain⟨g6,h3⟩:=H9 h2;obtain⟨g7,h4⟩:=H9 h3;obtain⟨cs,g8,h5⟩:=A8 h4;obtain⟨l,g9,h6⟩:=A8 h5;obtain⟨Z',g10,h7⟩:=A8 h6;cases h7;clear h2 h3 h4 h5 h6;have K:=Jo g6;have U:=Jo g7;unfold room at U;obtain⟨Bg,hBg,Ay0⟩:=W7 g8;refine⟨.kill g10,fun O w vs' N v hF hN hG I=>?_⟩;cases I with
   |cons hp I=>
   cases I;cases hp with
   |I3 hs=>simp[I3]at hs
   | @ptr _ _ q hq=>
   obtain⟨ho,arr,f,ha⟩:=v.typ hq ⟨B,(AH hB).1⟩ V;obtain⟨h2,_,u,hu,hur⟩:=PN (v.row b q B hq hB) ho GL;have fin:∀ (a:BU) (z:Nat),O g=some a->u= .slice (some ⟨a.c,a.o,none⟩) (n+1) z->n+1<=z->CW Tryz.prog B8 O 160 [.pointer (some ⟨q.c,q.o+0,none⟩)] Z w ⟨false,.string ⟨l.toArray⟩,Z'⟩:=by
    intro a z p H hk;subst H;obtain⟨y,A,fg,d⟩:=v.typ p ⟨Bg,(AH hBg).1⟩ W;obtain⟨Av0,e,lo,hi,a1,a0,a2,a3,a4,a5⟩:=v.row g a Bg p hBg;rw[d]at a1;cases a1;obtain⟨s1,s2⟩:=sub_eq Ay0;have M:cs.length=n+1:=by rw[s2];simp;omega
    obtain⟨u1,u2⟩:=oT g9;have i:l.length=n+1:=om;have R:∀ j x,l[j]? =some x->w.cell? ((⟨a.c,0,none⟩:Addr).add j)=some (.int .u8 x.toNat):=by
     intro j x L;have J:=u2 j x L;have D:j<n+1:=by have:=(List.getElem?_eq_some_iff.1 L).1;omega
     rw[s2,List.getElem?_take_of_lt D,List.getElem?_drop,GK]at J;obtain⟨v',c1,S⟩:=a5 j _ J;rw[y,GK]at c1;rw[addr_add,It d,GK,c1];cases S with
     |I3 _=>rfl
    have X:=fm q.c a.c z A.size l w (by rw[i,<- y];exact hu) om (by simp[World.shape?,d]) (by intro Y;rw[Y]at i;simp at i) om om R;have C:∀ c,c≠a.c->(w.drew.freeze ⟨a.c,0,none⟩ l.length).heap[c]? =w.heap[c]? :=by
     intro c F;unfold World.freeze;split
     ·rfl
     ·show(w.heap.modify a.c _)[c]? =_;rw[Array.getElem?_modify,z0z (fun h=>F h.symm)]
    obtain⟨w2,w3⟩:=v.AZ7 p g10 (w':=w.drew.freeze ⟨a.c,0,none⟩ l.length) (by unfold World.freeze;split<;>simp) C (by unfold World.freeze;split<;>exact⟨rfl,rfl,rfl⟩);rw[show q.o+0=0 from by omega];exact Kx Tryz.func160 kR rfl X w2 w3 (.I3 rfl)
   cases hur with
   |slice m=>exact fin _ _ m rfl K
   |grow m E a6=>exact fin _ _ m rfl (j9 K E)
   |I3 hs=>simp[I3]at hs
  ·cases h
 ·cases h
end
end
end Go.Proofs.T
namespace Go.Proofs.T
open Go Go.Ab Go.RowKit
def AI5 {B8:Env}{G:Nat}{vs:List Value}{Z:St}{r:CR}(h:jO vs Z=some r):Adv Z r.Z/\∀ O w vs' N,Rel B8 O Z w->Co O Z.n N->r.Z.n<=N->Bw O G->F8 O vs vs'->CW Tryz.prog B8 O 159 vs' Z w r :=
 sw (g:=159) Tryz.func159 kR rfl
  (fun d o c xs b w e f i j k=>Any.strings_Join Tryz.hU Tryz.AN2 d o c xs b w e f i j k)
  (fun a c b w=>Any.strings_Join_none Tryz.hU Tryz.AN2 a c b w) h
noncomputable def CS:EV:=fun g=>if g=109 then some iU else if g=159 then some (.plain jO)else if g=160 then some (.plain Af2)else if g=196 then some (.plain ckF)else none
def At7 {B8:Env}{G:Nat}(d:codeOk Tryz.prog 7 G parts.1=true/\codeOk Tryz.prog 7 G parts.2.2.1=true/\codeOk Tryz.prog 7 G parts.2.2.2=true):Jz Tryz.prog B8 G CS:=by
 intro g s a run c vs Z r h;unfold CS at a;split at a
 ·rename_i b;subst b;cases a;exact di d c h
 ·split at a
  ·rename_i b;subst b;cases a;exact AI5 h
  ·split at a
   ·rename_i b;subst b;cases a;exact AI4 h
   ·split at a
    ·rename_i b;subst b;cases a;exact Af3 h
    ·cases a
end Go.Proofs.T
namespace Go.Proofs.T
open Go Go.Ab Go.RowKit
section
variable {vs:List Value}{Z:St}{r:CR}
noncomputable def NZ (c:UInt8) (l:List UInt8):Int:=List.rec (motive:=fun _=>Int) (-1) (fun b _ a=>bi (Nat.beq b.toNat c.toNat) 0 (bi (ilt a 0) (-1) (a+1))) l
noncomputable def tJ (c:UInt8) (l:List UInt8):Nat:=List.rec (motive:=fun _=>Nat) 0 (fun b _ a=>bi (Nat.beq b.toNat c.toNat) (a+1) a) l
def fH (a b:UInt8):Nat.beq a.toNat b.toNat=(a==b):=by
 rw[z7z];constructor
 ·intro h;rw[UInt8.toNat.inj (Ai h)];simp
 ·intro h;rw[eq_of_beq h];exact Nat.beq_refl _
def zx (c:UInt8):∀ l:List UInt8,NZ c l=Lib.indexByte l c:=by
 intro l;induction l with
 |nil=>rfl
 | cons b l ih=>
   show bi (Nat.beq b.toNat c.toNat) 0 (bi (ilt (NZ c l) 0) (-1) (NZ c l+1))=_;rw[ih,fH];rw[show Lib.indexByte (b::l) c=if (b==c)=true then 0 else if (Lib.indexByte l c== -1)=true then -1 else Lib.indexByte l c+1 from rfl];have a:=Lib.indexByte_ge l c;generalize Lib.indexByte l c=z at a ⊢;cases d:(b==c)with
   |true=>rfl
   | false=>
     rw[Cp,z0z (by simp),Ot];by_cases h:z= -1
     ·subst h;rfl
     ·rw[dF,Cp,z0z (by simpa using h)]
def AA0 (c:UInt8):∀ l:List UInt8,tJ c l=Lib.countByte l c:=by
 intro l;induction l with
 |nil=>rfl
 | cons b l ih=>
   show bi (Nat.beq b.toNat c.toNat) (tJ c l+1) (tJ c l)=_;rw[ih,fH];unfold Lib.countByte;rw[jR];cases a:(b==c)<;>simp
def AA1 (n:Int):UInt8:=n.toNat.toUInt8
noncomputable def At5 (vs:List Value) (Z:St):Option CR:=match vs with
 | [.string s,.int .u8 n]=>some ⟨false,.int .i64 (NZ (AA1 n) s.data.toList),Z⟩
 |_=>none
noncomputable def At6 (vs:List Value) (Z:St):Option CR:=match vs with
 | [.string s,.int .u8 n]=>some ⟨false,.int .i64 (tJ (AA1 n) s.data.toList:Nat),Z⟩
 |_=>none
section
variable {B8:Env}{G:Nat}
def tK {g:Nat}{fn:Func}(e:Tryz.prog.funcs[g]? =some fn) (f:(fn.name== "runtime.NumGoroutine")=false){F:ByteArray->Int->Int}
  (b:∀ s n w,(callFunc g #[.string s,.int .u8 n]).run Tryz.prog w= .ok (.value (.int .i64 (F s n))) w) {vs:List Value}{Z:St}{r:CR}
  (h:(match vs with|[.string s,.int .u8 n]=>some ⟨false,.int .i64 (F s n),Z⟩|_=>none)=some r):Adv Z r.Z/\∀ O w vs' N,Rel B8 O Z w->Co O Z.n N->r.Z.n<=N->Bw O G->F8 O vs vs'->CW Tryz.prog B8 O g vs' Z w r:=by
 split at h
 ·rename_i s n;cases h;refine⟨.refl _,fun O w vs' N l i k j a=>?_⟩;cases a with
  |cons c a=>
  cases a with
  |cons d a=>
  cases a;cases c;cases d;exact⟨fn,e,f,.inr ⟨_,b s n w,rfl,rfl,.I3 rfl⟩⟩
 ·cases h
def AA2 (h:At5 vs Z=some r):Adv Z r.Z/\∀ O w vs' N,Rel B8 O Z w->Co O Z.n N->r.Z.n<=N->Bw O G->F8 O vs vs'->CW Tryz.prog B8 O 295 vs' Z w r :=
 tK (F:=fun s n=>NZ (AA1 n) s.data.toList) Tryz.func295 kR (fun s n w=>by
  rw[run_callFunc_extern Tryz.func295 kR kR kR (e:=Extern.BytealgIndexByte.indexByte) kR,Lib.run_indexByteString,zx];rfl) h
def AA3 (h:At6 vs Z=some r):Adv Z r.Z/\∀ O w vs' N,Rel B8 O Z w->Co O Z.n N->r.Z.n<=N->Bw O G->F8 O vs vs'->CW Tryz.prog B8 O 281 vs' Z w r :=
 tK (F:=fun s n=>(tJ (AA1 n) s.data.toList:Nat)) Tryz.func281 kR (fun s n w=>by
  rw[run_callFunc_extern Tryz.func281 kR kR kR (e:=Extern.BytealgCount.count) kR,Lib.run_countString,AA0];rfl) h
end
noncomputable def CS1:EV:=fun g=>if g=295 then some (.plain At5)else if g=281 then some (.plain At6)else CS g
def AP1 {B8:Env}{G:Nat}(d:codeOk Tryz.prog 7 G parts.1=true/\codeOk Tryz.prog 7 G parts.2.2.1=true/\codeOk Tryz.prog 7 G parts.2.2.2=true):Jz Tryz.prog B8 G CS1:=by
 intro g s a run c vs Z r h;unfold CS1 at a;split at a
 ·rename_i b;subst b;cases a;exact AA2 h
 ·split at a
  ·rename_i b;subst b;cases a;exact AA3 h
  ·exact At7 d g s a run c vs Z r h
end
end Go.Proofs.T
