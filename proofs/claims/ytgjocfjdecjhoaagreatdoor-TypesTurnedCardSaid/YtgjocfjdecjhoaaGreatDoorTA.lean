/- oh on the types of the Jg. -/
import Derived.Test.YtgjocfjdecjhoaaGreatDoorAbD
import Derived.Test.YtgjocfjdecjhoaaGreatDoorProg
import Derived.Shelf.Strings.OnBuilder
import Derived.Lib.Bytealg
set_option linter.unusedSimpArgs false
set_option linter.unusedVariables false
set_option linter.defProp false
set_option maxHeartbeats 32000000
set_option maxRecDepth 100000
namespace Go.Proofs.T
open Go Go.Ab
section
variable {z:List Value}{ps:List (Nat×Value)}
section
abbrev LDo (t:Nat):Prop:=∀ {fr:Fr}{Z:St}{a:Operand},Ht Tryz.prog fr Z t a=ob (ev fr a) fun v=>ob (at? v) fun p=>pr p fun b off=>ob (ob (Z.read b off 1) Ke) fun v=>some (v,⟨b,off,1⟩)
abbrev LDn (t n:Nat):Prop:=∀ {fr:Fr}{Z:St}{a:Operand},Ht Tryz.prog fr Z t a=ob (ev fr a) fun v=>ob (at? v) fun p=>pr p fun b off=>ob (ob (Z.read b off n) fun cs=>some (.agg ⟨cs⟩)) fun v=>some (v,⟨b,off,n⟩)
abbrev LVo (t:Nat):Prop:=∀ {Z:St}{b off:Nat},Om Tryz.prog Z t (.pointer (some ⟨b,off,none⟩))=ob (Z.read b off 1) Ke
abbrev LVn (t n:Nat):Prop:=∀ {Z:St}{b off:Nat},Om Tryz.prog Z t (.pointer (some ⟨b,off,none⟩))=ob (Z.read b off n) fun cs=>some (.agg ⟨cs⟩)
abbrev STn (t n:Nat):Prop:=∀ {fr:Fr}{Z:St}{a v:Operand},Gs Tryz.prog fr Z t a v=ob (ev fr a) fun a=>ob (ev fr v) fun v=>ob (ob (at? a) fun p=>pr p fun b off=>bi (Di v) none (bb ((J6 v).length.beq n) (Z.write b off (J6 v)))) fun Z=>some (P9,Z)
abbrev FAo (t k:Nat):Prop:=∀ {fr:Fr}{x:Operand},AY Tryz.prog fr t x k=ob (ev fr x) fun v=>ob (at? v) fun p=>pr p fun b off=>some (.pointer (some ⟨b,off,none⟩))
abbrev FAn (t k n:Nat):Prop:=∀ {fr:Fr}{x:Operand},AY Tryz.prog fr t x k=ob (ev fr x) fun v=>ob (at? v) fun p=>pr p fun b off=>some (.pointer (some ⟨b,off+n,none⟩))
abbrev FIo (t k o:Nat):Prop:=∀ {fr:Fr}{x:Operand},Vh Tryz.prog fr t x k=ob (ev fr x) fun v=>ob (oP v) fun cs=>ob (sub cs o 1) Ke
abbrev FIn (t k o n:Nat):Prop:=∀ {fr:Fr}{x:Operand},Vh Tryz.prog fr t x k=ob (ev fr x) fun v=>ob (oP v) fun cs=>ob (sub cs o n) fun cs=>some (.agg ⟨cs⟩)
abbrev IAs (t w:Nat):Prop:=∀ {b off len cap i:Nat}{s:Option Nat},Gp Tryz.prog t (.slice (some ⟨b,off,s⟩) len cap) i=bb (Nat.blt i len) (some (.pointer (some ⟨b,off+i*w,none⟩)))
abbrev APn (t w m e:Nat):Prop:=∀ {Z:St}{b:Option Addr}{len cap:Nat}{w':Value},FL Tryz.prog Z t (.slice b len cap) w'=ob (Ao Z w w') fun p=>pr p fun n new=>bi (Nat.ble (len+n) cap) (DT Z w b len cap n new) (bb (Nat.ble ((len+n)*m) room) (Ch e Z w b len n new))
abbrev SSn (t w:Nat):Prop:=∀ {b:Option Addr}{len cap:Nat}{lo hi:Option Value},Ve Tryz.prog t (.slice b len cap) lo hi=ob (bw len cap lo hi) fun p=>pr p fun lo hi=>sliceAt w b lo hi cap
abbrev SLn (t w:Nat) (z:List Value):Prop:=∀ {fr:Fr}{len:Nat}{parts:Array (Nat×Operand)},Gb Tryz.prog fr t len parts=ob (evs fr (parts.toList.map (·.2))) fun vs=>bb (Nat.ble (len*w) 16777216) (ob (Cq (fun i=>some (i*w,w)) ((parts.toList.map (·.1)).zip vs) (rep z len)) fun l=>some (l,fun n=> .slice (some ⟨n,0,none⟩) len len))
abbrev MKn (t m:Nat) (z:List Value):Prop:=∀ {fr:Fr}{l c:Operand},QG Tryz.prog fr t l c=ob (evN fr l) fun l=>ob (evN fr c) fun c=>bb (Nat.ble l c) (bb (Nat.ble (c*m) room) (some (rep z c,fun n=> .slice (some ⟨n,0,none⟩) l c)))
abbrev BVn (t w n:Nat):Prop:=∀ {z:List Value}{ps:List (Nat×Value)},DM Tryz.prog t z ps=ob (Cq (fun i=>some (i*w,n)) ps z) fun l=>some (.agg ⟨l⟩)
end
section
variable {fr:Fr}{Z:St}{x ix a v:Operand}{ve:Value}
def ld3:LDo 3:=by unfold LDo;intros;kernel_rfl
def st3:STn 3 1:=by unfold STn;intros;kernel_rfl
def al3:X8 Tryz.prog 3=some ([.int .i64 0],ptrTo):=kR
def ld4:LDo 4:=by unfold LDo;intros;kernel_rfl
def st4:STn 4 1:=by unfold STn;intros;kernel_rfl
def ld9:LDo 9:=by unfold LDo;intros;kernel_rfl
def BC8:LDo 22:=by unfold LDo;intros;kernel_rfl
def BG4:IAs 22 1:=by unfold IAs;intros;kernel_rfl
def Ag:APn 22 1 9 3:=by unfold APn;intros;kernel_rfl
def BG5:SSn 22 1:=by unfold SSn;intros;kernel_rfl
def BC9:SLn 22 1 [.int .i64 0]:=by unfold SLn;intros;kernel_rfl
def BD0:MKn 22 9 [.int .i64 0]:=by unfold MKn;intros;kernel_rfl
def BD1:LDo 25:=by unfold LDo;intros;kernel_rfl
def BD2:STn 25 1:=by unfold STn;intros;kernel_rfl
def BG6:IAs 25 2:=by unfold IAs;intros;kernel_rfl
def W4:APn 25 2 17 59:=by unfold APn;intros;kernel_rfl
def BD3:SLn 25 2 [.int .i64 0,.int .i64 0]:=by unfold SLn;intros;kernel_rfl
def BD4:LDo 26:=by unfold LDo;intros;kernel_rfl
def BD5:STn 26 1:=by unfold STn;intros;kernel_rfl
def BG7:IAs 26 5:=by unfold IAs;intros;kernel_rfl
def Y0:APn 26 5 49 57:=by unfold APn;intros;kernel_rfl
def BD6:SLn 26 5 [str [],.int .i64 0,.int .i64 0,.int .i64 0,.bool false]:=by unfold SLn;intros;kernel_rfl
def BD7:LDo 27:=by unfold LDo;intros;kernel_rfl
def BD8:STn 27 1:=by unfold STn;intros;kernel_rfl
def BG8:IAs 27 3:=by unfold IAs;intros;kernel_rfl
def W8:APn 27 3 41 61:=by unfold APn;intros;kernel_rfl
def BD9:SLn 27 3 [str [],str [],.int .i64 0]:=by unfold SLn;intros;kernel_rfl
def BE0:LDn 29 2:=by unfold LDn;intros;kernel_rfl
def BG9:LVn 29 2:=by unfold LVn;intros;kernel_rfl
def BE1:STn 29 2:=by unfold STn;intros;kernel_rfl
def BH0:X8 Tryz.prog 29=some ([.int .i64 0,.int .i64 0],ptrTo):=kR
def BH1:BJ Tryz.prog 29=some (.agg ⟨[.int .i64 0,.int .i64 0]⟩):=kR
def BH2:DM Tryz.prog 29 z ps=ob (Cq (fun i=>[(0,1),(1,1)][i]?) ps z) fun l=>some (.agg ⟨l⟩):=kR
def AV2:FAo 29 0:=by unfold FAo;intros;kernel_rfl
def AV3:FAn 29 1 1:=by unfold FAn;intros;kernel_rfl
def BE2:LDo 30:=by unfold LDo;intros;kernel_rfl
def BH3:IAs 30 5:=by unfold IAs;intros;kernel_rfl
def U5:APn 30 5 73 32:=by unfold APn;intros;kernel_rfl
def BE3:SLn 30 5 [str [],.int .i64 0,.int .i64 0,str [],.slice none 0 0]:=by unfold SLn;intros;kernel_rfl
def BE4:LDn 32 5:=by unfold LDn;intros;kernel_rfl
def BH4:LVn 32 5:=by unfold LVn;intros;kernel_rfl
def BE5:STn 32 5:=by unfold STn;intros;kernel_rfl
def BH5:X8 Tryz.prog 32=some ([str [],.int .i64 0,.int .i64 0,str [],.slice none 0 0],ptrTo):=kR
def BH6:BJ Tryz.prog 32=some (.agg ⟨[str [],.int .i64 0,.int .i64 0,str [],.slice none 0 0]⟩):=kR
def BH7:DM Tryz.prog 32 z ps=ob (Cq (fun i=>[(0,1),(1,2),(3,1),(4,1)][i]?) ps z) fun l=>some (.agg ⟨l⟩):=kR
def AV4:FAo 32 0:=by unfold FAo;intros;kernel_rfl
def AV5:FAn 32 1 1:=by unfold FAn;intros;kernel_rfl
def AV6:FAn 32 2 3:=by unfold FAn;intros;kernel_rfl
def AV7:FAn 32 3 4:=by unfold FAn;intros;kernel_rfl
def BE6:LDo 33:=by unfold LDo;intros;kernel_rfl
def BE7:STn 33 1:=by unfold STn;intros;kernel_rfl
def BH8:IAs 33 1:=by unfold IAs;intros;kernel_rfl
def W5:APn 33 1 17 9:=by unfold APn;intros;kernel_rfl
def BE8:SLn 33 1 [str []]:=by unfold SLn;intros;kernel_rfl
def BE9:LDo 34:=by unfold LDo;intros;kernel_rfl
def BF0:STn 34 1:=by unfold STn;intros;kernel_rfl
def BH9:IAs 34 1:=by unfold IAs;intros;kernel_rfl
def U6:APn 34 1 25 22:=by unfold APn;intros;kernel_rfl
def BF1:SLn 34 1 [.slice none 0 0]:=by unfold SLn;intros;kernel_rfl
def BF2:LDn 36 5:=by unfold LDn;intros;kernel_rfl
def BF3:STn 36 5:=by unfold STn;intros;kernel_rfl
def BI0:X8 Tryz.prog 36=some ([.int .i64 0,.int .i64 0,.int .i64 0,.int .i64 0,.int .i64 0],ptrTo):=kR
def AV8:FAo 36 0:=by unfold FAo;intros;kernel_rfl
def AV9:FAn 36 1 1:=by unfold FAn;intros;kernel_rfl
def AW0:FAn 36 2 2:=by unfold FAn;intros;kernel_rfl
def AW1:FAn 36 3 3:=by unfold FAn;intros;kernel_rfl
def AW2:FAn 36 4 4:=by unfold FAn;intros;kernel_rfl
def BF4:LDn 38 20:=by unfold LDn;intros;kernel_rfl
def BI1:LVn 38 20:=by unfold LVn;intros;kernel_rfl
def BF5:STn 38 20:=by unfold STn;intros;kernel_rfl
def BI2:X8 Tryz.prog 38=some ([str [],.slice none 0 0,.slice none 0 0,.slice none 0 0,.int .i64 0,.int .i64 0,str [],.int .i64 0,.int .i64 0,str [],.slice none 0 0,.slice none 0 0,.int .i64 0,.slice none 0 0,.int .i64 0,.int .i64 0,.int .i64 0,.int .i64 0,.int .i64 0,.int .i64 0],ptrTo):=kR
def BI3:BJ Tryz.prog 38=some (.agg ⟨[str [],.slice none 0 0,.slice none 0 0,.slice none 0 0,.int .i64 0,.int .i64 0,str [],.int .i64 0,.int .i64 0,str [],.slice none 0 0,.slice none 0 0,.int .i64 0,.slice none 0 0,.int .i64 0,.int .i64 0,.int .i64 0,.int .i64 0,.int .i64 0,.int .i64 0]⟩):=kR
def BI4:DM Tryz.prog 38 z ps=ob (Cq (fun i=>[(0,1),(1,1),(2,1),(3,1),(4,1),(5,1),(6,5),(11,1),(12,1),(13,1),(14,1),(15,5)][i]?) ps z) fun l=>some (.agg ⟨l⟩):=kR
def AW3:FAo 38 0:=by unfold FAo;intros;kernel_rfl
def AW4:FAn 38 1 1:=by unfold FAn;intros;kernel_rfl
def AW5:FAn 38 2 2:=by unfold FAn;intros;kernel_rfl
def AW6:FAn 38 3 3:=by unfold FAn;intros;kernel_rfl
def AW7:FAn 38 4 4:=by unfold FAn;intros;kernel_rfl
def AW8:FAn 38 5 5:=by unfold FAn;intros;kernel_rfl
def AW9:FAn 38 6 6:=by unfold FAn;intros;kernel_rfl
def AX0:FAn 38 7 11:=by unfold FAn;intros;kernel_rfl
def AX1:FAn 38 8 12:=by unfold FAn;intros;kernel_rfl
def AX2:FAn 38 9 13:=by unfold FAn;intros;kernel_rfl
def zv:FAn 38 10 14:=by unfold FAn;intros;kernel_rfl
def zw:FAn 38 11 15:=by unfold FAn;intros;kernel_rfl
def U7:APn 199 1 2 5:=by unfold APn;intros;kernel_rfl
def BF6:SLn 199 1 [.int .u8 0]:=by unfold SLn;intros;kernel_rfl
def BI5:LVo 41:=by unfold LVo;intros;kernel_rfl
def BF7:STn 41 1:=by unfold STn;intros;kernel_rfl
def BI6:X8 Tryz.prog 41=some ([.int .i64 0],ptrTo):=kR
def BI7:BJ Tryz.prog 59=some (.agg ⟨[.int .i64 0,.int .i64 0]⟩):=kR
def BI8:DM Tryz.prog 59 z ps=ob (Cq (fun i=>[(0,1),(1,1)][i]?) ps z) fun l=>some (.agg ⟨l⟩):=kR
def AX3:FAo 59 0:=by unfold FAo;intros;kernel_rfl
def AX4:FAn 59 1 1:=by unfold FAn;intros;kernel_rfl
def BF8:LDn 57 5:=by unfold LDn;intros;kernel_rfl
def BF9:STn 57 5:=by unfold STn;intros;kernel_rfl
def BI9:X8 Tryz.prog 57=some ([str [],.int .i64 0,.int .i64 0,.int .i64 0,.bool false],ptrTo):=kR
def BJ0:BJ Tryz.prog 57=some (.agg ⟨[str [],.int .i64 0,.int .i64 0,.int .i64 0,.bool false]⟩):=kR
def BJ1:DM Tryz.prog 57 z ps=ob (Cq (fun i=>[(0,1),(1,1),(2,1),(3,1),(4,1)][i]?) ps z) fun l=>some (.agg ⟨l⟩):=kR
def AX5:FAo 57 0:=by unfold FAo;intros;kernel_rfl
def AX6:FAn 57 1 1:=by unfold FAn;intros;kernel_rfl
def AX7:FAn 57 2 2:=by unfold FAn;intros;kernel_rfl
def AX8:FAn 57 3 3:=by unfold FAn;intros;kernel_rfl
def AX9:FAn 57 4 4:=by unfold FAn;intros;kernel_rfl
def BG0:LDn 61 3:=by unfold LDn;intros;kernel_rfl
def BG1:STn 61 3:=by unfold STn;intros;kernel_rfl
def BJ2:X8 Tryz.prog 61=some ([str [],str [],.int .i64 0],ptrTo):=kR
def BJ3:BJ Tryz.prog 61=some (.agg ⟨[str [],str [],.int .i64 0]⟩):=kR
def BJ4:DM Tryz.prog 61 z ps=ob (Cq (fun i=>[(0,1),(1,1),(2,1)][i]?) ps z) fun l=>some (.agg ⟨l⟩):=kR
def AY0:FAo 61 0:=by unfold FAo;intros;kernel_rfl
def AY1:FAn 61 1 1:=by unfold FAn;intros;kernel_rfl
def AY2:FAn 61 2 2:=by unfold FAn;intros;kernel_rfl
def U8:APn 154 2 25 194:=by unfold APn;intros;kernel_rfl
def Ap1:LDo 101:=by unfold LDo;intros;kernel_rfl
def K3:APn 281 1 9 171:=by unfold APn;intros;kernel_rfl
def Ap2:LDn 103 3:=by unfold LDn;intros;kernel_rfl
def Ap7:LVn 103 3:=by unfold LVn;intros;kernel_rfl
def Ap3:STn 103 3:=by unfold STn;intros;kernel_rfl
def Ap8:X8 Tryz.prog 103=some ([.bool false,.int .u64 0,.int .u64 0],ptrTo):=kR
def Ap9:BJ Tryz.prog 103=some (.agg ⟨[.bool false,.int .u64 0,.int .u64 0]⟩):=kR
def Aq0:DM Tryz.prog 103 z ps=ob (Cq (fun i=>[(0,1),(1,1),(2,1)][i]?) ps z) fun l=>some (.agg ⟨l⟩):=kR
def zx:FAo 103 0:=by unfold FAo;intros;kernel_rfl
def AA0:FAn 103 1 1:=by unfold FAn;intros;kernel_rfl
def AA1:FAn 103 2 2:=by unfold FAn;intros;kernel_rfl
def Ap4:LDn 107 2:=by unfold LDn;intros;kernel_rfl
def Aq1:LVn 107 2:=by unfold LVn;intros;kernel_rfl
def Ap5:STn 107 2:=by unfold STn;intros;kernel_rfl
def Aq2:X8 Tryz.prog 107=some ([.int .u64 0,.int .u64 0],ptrTo):=kR
def Aq3:BJ Tryz.prog 107=some (.agg ⟨[.int .u64 0,.int .u64 0]⟩):=kR
def Aq4:DM Tryz.prog 107 z ps=ob (Cq (fun i=>[(0,1),(1,1)][i]?) ps z) fun l=>some (.agg ⟨l⟩):=kR
def AA2:FAo 107 0:=by unfold FAo;intros;kernel_rfl
def AA3:FAn 107 1 1:=by unfold FAn;intros;kernel_rfl
def Aa8:BJ Tryz.prog 72=some (.agg ⟨[.slice none 0 0,.int .i64 0]⟩):=kR
def Aa9:DM Tryz.prog 72 z ps=ob (Cq (fun i=>[(0,1),(1,1)][i]?) ps z) fun l=>some (.agg ⟨l⟩):=kR
def uJ:FAo 72 0:=by unfold FAo;intros;kernel_rfl
def uK:FAn 72 1 1:=by unfold FAn;intros;kernel_rfl
def AY3:LDn 81 2:=by unfold LDn;intros;kernel_rfl
def Ab0:LVn 81 2:=by unfold LVn;intros;kernel_rfl
def AY4:STn 81 2:=by unfold STn;intros;kernel_rfl
def Ab1:X8 Tryz.prog 81=some ([.int .i64 0,.bool false],ptrTo):=kR
def Ab2:BJ Tryz.prog 81=some (.agg ⟨[.int .i64 0,.bool false]⟩):=kR
def Ab3:DM Tryz.prog 81 z ps=ob (Cq (fun i=>[(0,1),(1,1)][i]?) ps z) fun l=>some (.agg ⟨l⟩):=kR
def uL:FAo 81 0:=by unfold FAo;intros;kernel_rfl
def uM:FAn 81 1 1:=by unfold FAn;intros;kernel_rfl
def AY5:LDn 88 4:=by unfold LDn;intros;kernel_rfl
def Ab4:LVn 88 4:=by unfold LVn;intros;kernel_rfl
def AY6:STn 88 4:=by unfold STn;intros;kernel_rfl
def Ab5:X8 Tryz.prog 88=some ([.int .i64 0,.int .i64 0,.int .i64 0,.int .i64 0],ptrTo):=kR
def Ab6:BJ Tryz.prog 88=some (.agg ⟨[.int .i64 0,.int .i64 0,.int .i64 0,.int .i64 0]⟩):=kR
def Ab7:DM Tryz.prog 88 z ps=ob (Cq (fun i=>[(0,2),(2,2)][i]?) ps z) fun l=>some (.agg ⟨l⟩):=kR
def uN:FAo 88 0:=by unfold FAo;intros;kernel_rfl
def uO:FAn 88 1 2:=by unfold FAn;intros;kernel_rfl
def AY7:LDo 85:=by unfold LDo;intros;kernel_rfl
def AY8:STn 85 1:=by unfold STn;intros;kernel_rfl
def Ab8:X8 Tryz.prog 85=some ([.map none],ptrTo):=kR
def BG2:LDo 46:=by unfold LDo;intros;kernel_rfl
def BG3:STn 46 1:=by unfold STn;intros;kernel_rfl
def BJ5:X8 Tryz.prog 46=some ([.nilFunc],ptrTo):=kR
def AY9:LDn 130 4:=by unfold LDn;intros;kernel_rfl
def AZ0:STn 130 4:=by unfold STn;intros;kernel_rfl
def Ab9:X8 Tryz.prog 130=some ([.int .i64 0,.int .i64 0,.int .i64 0,.int .i64 0],ptrTo):=kR
def Ac0:BJ Tryz.prog 130=some (.agg ⟨[.int .i64 0,.int .i64 0,.int .i64 0,.int .i64 0]⟩):=kR
def Ac1 {b off i:Nat}:Gp Tryz.prog 130 (.pointer (some ⟨b,off,none⟩)) i=bb (Nat.blt i 2) (some (.pointer (some ⟨b,off+i*2,none⟩))):=kR
def Ac2:BVn 130 2 2:=by unfold BVn;intros;kernel_rfl
def Ac3:IAs 129 4:=by unfold IAs;intros;kernel_rfl
def H9:APn 129 4 33 130:=by unfold APn;intros;kernel_rfl
def AZ1:SLn 129 4 [.int .i64 0,.int .i64 0,.int .i64 0,.int .i64 0]:=by unfold SLn;intros;kernel_rfl
def Ac4:IAs 133 2:=by unfold IAs;intros;kernel_rfl
def J3:APn 133 2 17 29:=by unfold APn;intros;kernel_rfl
def AZ2:SLn 133 2 [.int .i64 0,.int .i64 0]:=by unfold SLn;intros;kernel_rfl
def AZ3:LDo 136:=by unfold LDo;intros;kernel_rfl
def AZ4:STn 136 1:=by unfold STn;intros;kernel_rfl
def Ac5:X8 Tryz.prog 136=some ([.slice none 0 0],ptrTo):=kR
def Ac6:IAs 136 4:=by unfold IAs;intros;kernel_rfl
def I5:APn 136 4 33 88:=by unfold APn;intros;kernel_rfl
def Ac7:SSn 136 4:=by unfold SSn;intros;kernel_rfl
def AZ5:SLn 136 4 [.int .i64 0,.int .i64 0,.int .i64 0,.int .i64 0]:=by unfold SLn;intros;kernel_rfl
def AZ6:LDo 173:=by unfold LDo;intros;kernel_rfl
def AZ7:STn 173 1:=by unfold STn;intros;kernel_rfl
def Ac8:X8 Tryz.prog 173=some ([.slice none 0 0],ptrTo):=kR
def Ac9:IAs 173 2:=by unfold IAs;intros;kernel_rfl
def I6:APn 173 2 17 81:=by unfold APn;intros;kernel_rfl
def Ad0:SSn 173 2:=by unfold SSn;intros;kernel_rfl
def AZ8:SLn 173 2 [.int .i64 0,.bool false]:=by unfold SLn;intros;kernel_rfl
def Ad1:IAs 164 1:=by unfold IAs;intros;kernel_rfl
def I0:APn 164 1 2 4:=by unfold APn;intros;kernel_rfl
def AZ9:SLn 164 1 [.bool false]:=by unfold SLn;intros;kernel_rfl
def Aa0:LDo 91:=by unfold LDo;intros;kernel_rfl
def Aa1:LDo 93:=by unfold LDo;intros;kernel_rfl
def Aa2:LDo 127:=by unfold LDo;intros;kernel_rfl
def Aa3:LDo 128:=by unfold LDo;intros;kernel_rfl
def Aa4:LDo 131:=by unfold LDo;intros;kernel_rfl
def Aa5:STn 131 1:=by unfold STn;intros;kernel_rfl
def Ad2:X8 Tryz.prog 131=some ([.nilFunc],ptrTo):=kR
def Aa6:LDo 134:=by unfold LDo;intros;kernel_rfl
def Aa7:STn 134 1:=by unfold STn;intros;kernel_rfl
def Ad3:X8 Tryz.prog 134=some ([.nilFunc],ptrTo):=kR
end
end
end Go.Proofs.T
namespace Go.Proofs
open Go.Shelf
def Tryz.OV:Go.Shelf.Ren:=⟨fun|156=>159|165=>197|166=>158|169=>160|240=>196|241=>225|276=>224|277=>254|n=>n,fun|31=>33|9=>9|3=>3|4=>4|0=>0|20=>20|72=>201|76=>204|70=>198|37=>199|75=>203|127=>234|164=>259|5=>5|80=>209|n=>n,fun|n=>n⟩
def Tryz.fU:Go.Proofs.Lays.n156 Tryz.prog Tryz.OV:={
 mixed:=by kernel_rfl
 f156:=Tryz.func159.trans (congrArg some (by kernel_rfl))
 f165:=Tryz.func197.trans (congrArg some (by kernel_rfl))
 f166:=Tryz.func158.trans (congrArg some (by kernel_rfl))
 f169:=Tryz.func160.trans (congrArg some (by kernel_rfl))
 f240:=Tryz.func196.trans (congrArg some (by kernel_rfl))
 f241:=Tryz.func225.trans (congrArg some (by kernel_rfl))
 f276:=Tryz.func224.trans (congrArg some (by kernel_rfl))
 f277:=Tryz.func254.trans (congrArg some (by kernel_rfl))
 t0:=Tryz.underlying0
 a0:=Tryz.isAgg0
 z0:=Tryz.sizeOf0
 v0:=Tryz.zeroValue0
 t3:=Tryz.underlying3
 a3:=Tryz.isAgg3
 z3:=Tryz.sizeOf3
 v3:=Tryz.zeroValue3
 t4:=Tryz.underlying4
 a4:=Tryz.isAgg4
 z4:=Tryz.sizeOf4
 v4:=Tryz.zeroValue4
 t9:=Tryz.underlying9
 a9:=Tryz.isAgg9
 z9:=Tryz.sizeOf9
 v9:=Tryz.zeroValue9
 t20:=Tryz.underlying20
 a20:=Tryz.isAgg20
 z20:=Tryz.sizeOf20
 v20:=Tryz.zeroValue20
 t31:=Tryz.underlying33
 a31:=Tryz.isAgg33
 z31:=Tryz.sizeOf33
 v31:=Tryz.zeroValue33
 t37:=Tryz.underlying199
 a37:=Tryz.isAgg199
 z37:=Tryz.sizeOf199
 v37:=Tryz.zeroValue199
 t70:=Tryz.underlying198
 a70:=Tryz.isAgg198
 z70:=Tryz.sizeOf198
 v70:=Tryz.zeroValue198
 t72:=Tryz.underlying201
 a72:=Tryz.isAgg201
 z72:=Tryz.sizeOf201
 v72:=Tryz.zeroValue201
 t75:=Tryz.underlying203
 a75:=Tryz.isAgg203
 z75:=Tryz.sizeOf203
 v75:=Tryz.zeroValue203
 t76:=Tryz.underlying204
 a76:=Tryz.isAgg204
 z76:=Tryz.sizeOf204
 v76:=Tryz.zeroValue204
 t127:=Tryz.underlying234
 a127:=Tryz.isAgg234
 z127:=Tryz.sizeOf234
 v127:=Tryz.zeroValue234
 t164:=Tryz.underlying259
 a164:=Tryz.isAgg259
 z164:=Tryz.sizeOf259
 v164:=Tryz.zeroValue259 }
def Tryz.AE1:Builder.Extra Tryz.prog Tryz.OV:={
 sizeBuilder:=by kernel_rfl
 liesBuilder:=by kernel_rfl
 t5:=Tryz.underlying5
 a5:=Tryz.isAgg5
 z5:=Tryz.sizeOf5
 v5:=Tryz.zeroValue5
 infoByte:=by kernel_rfl
 cellsByte:=by kernel_rfl
 sizeByte:=by kernel_rfl
 neB5:=by decide }
end Go.Proofs
namespace Go.Proofs.T
open Go Go.Ab Go.RowKit
def lN {P:Program}{e s m:Nat}(hb:Nat.ble 1 P.depth=true) (hs:P.cellsOf e=s) (h0:0<s) (hm:s<=m):liesAt P P.depth e (m / P.cellsOf e) 0 e 1=true:=by
 obtain⟨d,hd⟩:∃ d,P.depth=d+1:=⟨P.depth-1,by have:=JM hb;omega⟩
 rw[hd];unfold liesAt;rw[hd];have h1:1<=m / s:=(Nat.le_div_iff_mul_le h0).2 om;have hr:rowAt P (sameLayout P (d+1) · e) (d+1) e (m / P.cellsOf e) 0 1=true:=by
  unfold rowAt;rw[hs];simp only[z0z (show ¬ s=0 by omega),Nat.zero_div,qO,beq_self_eq_true,IE];have:sameLayout P (d+1) e e=true:=by unfold sameLayout;simp
  rw[this];simp[h1]
 rw[hr];rfl
def eN (c:Nat) (w:World) (h0:w.cell? ⟨c,0,none⟩=some (.pointer (some ⟨c,0,none⟩))) :
  Calls Tryz.prog 196 #[.pointer (some ⟨c,0,none⟩)] w fun e w'=>e= .returned (.tuple #[])/\w'=w:=by
 obtain⟨j,hj,_⟩:=AG8.1 (show(Tryz.prog.info? 201).map (·.size)=some 2 by kernel_rfl)
 go_enter Tryz.func196,Tryz.ntmps196
 go_wp2
 rw[Lib.run_neq_ptr_same w _ Tryz.underlying198 hj]
 go_wp2
 go_end0
 exact⟨rfl,rfl⟩
def Zw (c m:Nat) (w:World) (h0:w.cell? ⟨c,0,none⟩=some (.pointer none)) (hsh:w.shape? c=some (201,m)) (hm:2<=m) (hfz:w.frozen? ⟨c,0,none⟩=false) :
  Calls Tryz.prog 196 #[.pointer (some ⟨c,0,none⟩)] w fun e w'=>e= .returned (.tuple #[])/\w'=w.setCell ⟨c,0,none⟩ (.pointer (some ⟨c,0,none⟩)):=by
 obtain⟨j,hj,hjs⟩:=AG8.1 (show(Tryz.prog.info? 201).map (·.size)=some 2 by kernel_rfl)
 go_enter Tryz.func196,Tryz.ntmps196
 go_wp2
 rw[Lib.run_to_unsafe w ⟨c,0,none⟩ Tryz.underlying198 Tryz.underlying259 hj (by rw[hjs];decide) hsh (by show 0<m;omega)];simp only[Result.andThen];rw[sY]
 go_wp2
 rw[run_callFunc_extern Tryz.func224 kR kR kR (e:=Extern.AbiNoEscape.same) kR];rw[Lib.run_noEscape];simp only[Result.andThen];rw[sY]
 go_wp2
 rw[Lib.run_from_unsafe w ⟨c,0,none⟩ Tryz.underlying259 Tryz.underlying198 hj hsh (lN kR (s:=2) kR om hm)];simp only[Result.andThen];rw[sY]
 go_wp2
 go_end0
 exact⟨rfl,rfl⟩
def eO (c g cap cells:Nat) (l:List UInt8) (w:World) (hc:w.cell? ⟨c,1,none⟩=some (.slice (some ⟨g,0,none⟩) l.length cap)) (Af4:l.length<=cap) (hsh:w.shape? g=some (5,cells)) (h0:l≠[]) (hn:l.length<=cells) (h63:l.length<=9223372036854775807)
  (ZD:∀ j x,l[j]? =some x->w.cell? ((⟨g,0,none⟩:Addr).add j)=some (.int .u8 x.toNat)) :
  Calls Tryz.prog 160 #[.pointer (some ⟨c,0,none⟩)] w fun e w'=>e= .returned (.string ⟨l.toArray⟩)/\w'=w.drew.freeze ⟨g,0,none⟩ l.length:=by
 have hl:l.length≠0:=by simpa using h0
 have c1:w.drew.cell? ⟨c,1,none⟩=some (.slice (some ⟨g,0,none⟩) l.length cap):=hc
 have hSD:(Builtin.unsafeSliceData_ #[199] 234 #[.slice (some ⟨g,0,none⟩) l.length cap]).run Tryz.prog w.drew= .ok (.pointer (some ⟨g,0,none⟩)) w.drew :=
  Lib.run_unsafeSliceData_row _ _ _ _ _ _ om
 have hUS:(Builtin.unsafeString_ #[234,3] 9 #[.pointer (some ⟨g,0,none⟩),.int .i64 l.length]).run Tryz.prog w.drew= .ok (.string ⟨l.toArray⟩) (w.drew.freeze ⟨g,0,none⟩ l.length) :=
  Lib.run_unsafeString_row w.drew 234 3 9 5 Tryz.underlying234 kR g cells hsh l h0 hn h63 ZD
 have mixed:Tryz.prog.follows .mixedOrders=true:=kR
 go_enter Tryz.func160,Tryz.ntmps160
 go_wp2
 go_region_o
 all_goals (go_wp2;go_ret;exact⟨rfl,rfl⟩)
end Go.Proofs.T
namespace Go.Proofs.T
open Go Go.Ab
section
variable {e:Operand->Value}{v p u:Value}{x:Operand}
def Ah9 (x:Value) (w:World):(invoke (.fn (.func 149) #[x]) #[]).run Tryz.prog w= .ok (.enter 149 #[x]) w:=by
 have h1:Tryz.prog.funcs[149]? =some Tryz.f149:=Tryz.func149;simp[invoke,callFunc,Sem.run_bind,run_program,Result.andThen_ok,h1];rw[z0z (z9z kR),z0z (by intro h;cases h)]
def vw (Q:Exit->Act->World->Prop) (a:Act) (w:World) (x:Value) (hs:7<=a.tmps.size) (hx:a.tmps[2]? =some x) (h:Q .normal (deferred a 3 149 x) w){p1 p2:String}{e1 e2:Array Edge}{i t1 t2:Nat}:
  (Code.region i #[⟨some 3,.makeFunc (.func 149) #[] #[.tmp 2],t1,p1,e1,none⟩,⟨none,.defer ⟨.value (.tmp 3),#[],#[]⟩,t2,p2,e2,none⟩] false).wpIn Fence.wide 0 Tryz.prog Q a w:=by
 refine wpIn_region_list ?_;simp only[wpListIn,Region.wanted,FP];refine⟨fun _ _=>trivial,?_⟩;have k1:(Oper.semAt Fence.wide.round a.eval ⟨some 3,.makeFunc (.func 149) #[] #[.tmp 2],t1,p1,e1,none⟩).run Tryz.prog w= .ok (.value (.func (.func 149) #[] #[x])) w:=by
  simp[Fence.wide,Oper.semAt_none,execOp,Instr.makeFunc,Act.eval,hx]
 rw[k1];show Oper.wpIn _ _ _ _ _ _ _ _;refine⟨fun _ _=>trivial,?_⟩;have k2:(Oper.semAt Fence.wide.round (a.put (some 3) (.func (.func 149) #[] #[x])).eval ⟨none,.defer ⟨.value (.tmp 3),#[],#[]⟩,t2,p2,e2,none⟩).run Tryz.prog w= .ok (.defer { target:= .fn (.func 149) #[x],args:=#[] }) w:=by
  have hx3:(a.put (some 3) (.func (.func 149) #[] #[x])).tmps[3]? =some (.func (.func 149) #[] #[x]):=by
   show(a.tmps.setIfInBounds 3 _)[3]? =_;rw[Array.getElem?_setIfInBounds,z1z rfl,z1z om]
  simp[Fence.wide,Oper.semAt_none,execOp,Act.eval,hx3,resolve,Deferred.ofValue]
 rw[k2];exact h
def cA (x:Value) (w:World):CallsDIn Fence.wide 0 Tryz.prog 149 #[x] .returning w fun e u' w'=>(∃ v,e= .returned v)/\u'= .returning/\w'=w:=by
 refine callsDIn_of_wpSIn Tryz.func149 rfl trivial fun c₀ cs hu=>?_;apply wpSIn_seq;apply wpSIn_region;simp[wpOpsSIn,go_sem,recoverD,hu,Tryz.ntmps149,Exit.thenS];apply wpSIn_seq;apply wpSIn_region;have e1:Tryz.prog.underlying 20=some (.interface #[]):=Tryz.underlying20;have e3:∀ w:World,(Op.equalIn Op.maxDepth 20 .nilIface .nilIface).run Tryz.prog w= .ok true w:=fun w=>FI _ (show N7 Tryz.prog (Op.equalIn Op.maxDepth 20 .nilIface .nilIface)=some true by kernel_rfl) w;simp[wpOpsSIn,go_sem,recoverD,hu,Tryz.ntmps149,Exit.thenS,eqGuard,binOp,Op.equal,e1,e3];refine wpSIn_cond (t:=false) (by simp[Act.eval,Array.replicate]) ?_;refine wpSIn_of_wpIn rfl (wpIn_skip ?_);simp[bodyPostS,results,go_sem,hu];cases c₀;cases hu;rfl
section
variable {P:Program}{n:Nat}{Q:Exit->Act->List Frame->World->Prop}{a:Act}{cs:List Frame}{w w':World}{ops:Array Oper}{i:Nat}{N3:List Nat}{o:Oper}
def opS (ho:ops[i]? =some o) (hg:o.guard=none) (h:(execOp a.eval o).run P w= .ok (.value v) w') (k:wpOpsSIn Fence.wide n P ops Q N3 (a.put o.dst v) cs w'):wpOpsSIn Fence.wide n P ops Q (i::N3) a cs w:=by
 simp only[wpOpsSIn,ho,Region.wanted,hg,FP,h];exact⟨fun _ _=>trivial,k⟩
def Ai0 (ho:ops[i]? =some o) (hg:o.guard=none) (h:(execOp a.eval o).run P w= .ok .skip w') (k:wpOpsSIn Fence.wide n P ops Q N3 (a.put o.dst undef) cs w'):wpOpsSIn Fence.wide n P ops Q (i::N3) a cs w:=by
 simp only[wpOpsSIn,ho,Region.wanted,hg,FP,h];exact⟨fun _ _=>trivial,k⟩
def Qs {t:TypeId}{y:Operand}(ho:o.op= .store t x y)(hx:e x=p) (hy:e y=v) (h:(Instr.storeAt t p v).run P w= .ok () w'):(execOp e o).run P w= .ok .skip w':=by
 simp only[execOp,ho,hx,hy,Sem.run_bind,h];rfl
def jd {t:TypeId}(ho:o.op= .load t x)(hx:e x=p) (h:(Instr.loadAt t p).run P w= .ok u w'):(execOp e o).run P w= .ok (.value u) w':=by
 simp only[execOp,ho,hx,Sem.run_bind,h];rfl
def cB {t:TypeId}(ho:o.op= .alloc t)(h:(Instr.alloc t true (.tuple #[])).run P w= .ok u w'):(execOp e o).run P w= .ok (.value u) w':=by
 simp only[execOp,ho,Sem.run_bind,h];rfl
end
def YC (x v:Value) (w w':World) (h:Nh Tryz.prog 151 x v w w'):CallsDIn Fence.wide 0 Tryz.prog 149 #[x] (.panicking [{ v:= .iface 151 v,recovered:=false }]) w fun e u' w''=>(∃ v,e= .returned v)/\settle u'= .returning/\w''=w':=by
 obtain⟨w1,w2,u,h1,h2,h3,h4⟩:=h;refine callsDIn_of_wpSIn Tryz.func149 rfl trivial fun c₀ cs hu=>?_;apply wpSIn_seq;apply wpSIn_region;simp[wpOpsSIn,go_sem,recoverD,hu,Tryz.ntmps149,Exit.thenS];apply wpSIn_seq;apply wpSIn_region;have e1:Tryz.prog.underlying 20=some (.interface #[]):=Tryz.underlying20;have e3:∀ w:World,(Op.equalIn Op.maxDepth 20 (.iface 151 v) .nilIface).run Tryz.prog w= .ok false w:=fun w=>FI _ (show N7 Tryz.prog (Op.equalIn Op.maxDepth 20 (.iface 151 v) .nilIface)=some false by kernel_rfl) w;simp[wpOpsSIn,go_sem,recoverD,hu,Tryz.ntmps149,Exit.thenS,eqGuard,binOp,Op.equal,e1,e3];refine wpSIn_cond (t:=true) (by simp[Act.eval,Array.replicate]) ?_;simp only[FP];apply wpSIn_seq;apply wpSIn_region;show wpOpsSIn _ _ _ _ _ [0,1,2,3,4,5,6,7] _ _ _;refine opS rfl rfl (by simp[go_sem];exact⟨rfl,rfl⟩) ?_;refine opS rfl rfl (by simp[go_sem,Instr.typeAssert];exact⟨rfl,rfl⟩) ?_;refine opS rfl rfl (by simp[go_sem];exact⟨rfl,rfl⟩) ?_;refine opS rfl rfl (by simp[go_sem];exact⟨rfl,rfl⟩) ?_;refine opS rfl rfl (by simp[go_sem];exact⟨rfl,rfl⟩) ?_;refine opS rfl rfl (cB rfl h1) ?_;refine Ai0 rfl rfl (Qs rfl (by simp[go_sem]) (by simp[go_sem]) h2) ?_;refine opS rfl rfl (by simp[go_sem];exact⟨rfl,rfl⟩) ?_;apply wpSIn_seq;apply wpSIn_seq;apply wpSIn_region;show wpOpsSIn _ _ _ _ _ [0,1] _ _ _;refine opS rfl rfl (by simp[go_sem];exact⟨rfl,rfl⟩) ?_;refine opS rfl rfl (by simp[go_sem];first|rfl|exact⟨rfl,rfl⟩) ?_;refine wpSIn_cond (t:=false) (by simp[go_sem]) ?_;refine wpSIn_of_wpIn rfl (wpIn_skip ?_);apply wpSIn_region;show wpOpsSIn _ _ _ _ _ [0,1] _ _ _;refine opS rfl rfl (jd rfl (by simp[go_sem]) h3) ?_;refine Ai0 rfl rfl (Qs rfl (by simp[go_sem]) (by simp[go_sem]) h4) ?_;show bodyPostS _ _ _ _ _ .normal _ _ _;simp[bodyPostS,results,go_sem,hu];cases c₀;cases hu;rfl
noncomputable def parts:Code×Code×Code×Code:=match Tryz.f109.body with
 |some (.seq a (.seq b (.seq c (.seq d .ret))))=>(a,b,c,d)
 |_=>(.skip,.skip,.skip,.skip)
noncomputable def fm:oK:=oL Tryz.prog parts.1 parts.2.2.1 parts.2.2.2 3 2 151 151 [.cell 2 151]
def cD {B8:Env}{G:Nat}(hG:codeOk Tryz.prog 7 G parts.1=true/\codeOk Tryz.prog 7 G parts.2.2.1=true/\codeOk Tryz.prog 7 G parts.2.2.2=true){run:RunT}(hE:Nb Tryz.prog B8 G run){vs:List Value}{Z:St}{r:CR}(h:fm.f run vs Z=some r):
  Adv Z r.Z/\∀ O w vs' N,Rel B8 O Z w->Cc O Z.n N->r.Z.n<=N->Bm O G->E7 O vs vs'->CG Tryz.prog B8 O 109 vs' Z w r :=
 cE (c1:=parts.2.1) (k:=149) Tryz.func109 kR rfl (fun Q a w x h1 h2 h3=>vw Q a w x h1 h2 h3) Ah9 cA YC hG.1 hG.2.1 hG.2.2 hE h
end
end Go.Proofs.T
namespace Go.Proofs.T
open Go Go.Ab Go.RowKit
section
variable {vs:List Value}{Z:St}{r:CR}
noncomputable def ckF (vs:List Value) (Z:St):Option CR:=match vs with
 | [.pointer (some ⟨b,0,none⟩)]=>ob (Z.typ b) fun t=>bb (Nat.beq t 201) (ob (Z.read b 0 2) fun cs=>(match cs with
   | [.pointer none,_]=>ob (Z.write b 0 [.pointer (some ⟨b,0,none⟩)]) fun Z=>some ⟨false,.tuple #[],Z⟩
   | [.pointer (some ⟨c,0,none⟩),_]=>bb (Nat.beq c b) (some ⟨false,.tuple #[],Z⟩)
   |_=>none))
 |_=>none
noncomputable def uI (v:Value):Option UInt8:=match v with
 | .int .u8 (.ofNat n)=>bb (Nat.blt n 256) (some (UInt8.ofNat n))
 |_=>none
noncomputable def ej (l:List Value):Option (List UInt8) :=
 List.rec (motive:=fun _=>Option (List UInt8)) (some []) (fun v _ ih=>ob (uI v) fun b=>ob ih fun bs=>some (b::bs)) l
noncomputable def AV0 (vs:List Value) (Z:St):Option CR:=match vs with
 | [.pointer (some ⟨b,0,none⟩)]=>ob (Z.typ b) fun t=>bb (Nat.beq t 201) (ob (Z.read b 0 2) fun cs=>(match cs with
   | [_,.slice (some ⟨g,0,_⟩) (n+1) k]=>ob (Z.typ g) fun t=>bb (Nat.beq t 5) (bb (Nat.ble (n+1) k) (bb (Nat.ble n room) (ob (Z.read g 0 (n+1)) fun cs=>ob (ej cs) fun l=>ob (Z.kill g) fun Z=>some ⟨false,.string ⟨l.toArray⟩,Z⟩)))
   |_=>none))
 |_=>none
section
variable {B8:Env}{G:Nat}
def OK {O:Ab.Place}{w:World}{q:BK}{cells:List Value}{v1 v2:Value}(hR:Row B8 O w q cells) (ho:q.o=0) (hs:sub cells 0 2=some [v1,v2]):
  2<=q.m/\(∃ u,w.cell? ⟨q.c,0,none⟩=some u/\H3 O v1 u)/\∃ u,w.cell? ⟨q.c,1,none⟩=some u/\H3 O v2 u:=by
 obtain⟨arr,e,lo,hi,a1,a0,a2,a3,a4,a5⟩:=hR;obtain⟨s1,s2⟩:=sub_eq hs;have g0:cells[0]? =some v1:=by
  have:=congrArg (fun l:List Value=>l[0]?) s2
  simpa using this.symm
 have g1:cells[1]? =some v2:=by
  have:=congrArg (fun l:List Value=>l[1]?) s2
  simpa using this.symm
 obtain⟨u1,b1,b2⟩:=a5 0 v1 g0;obtain⟨u2,b3,b4⟩:=a5 1 v2 g1;rw[ho]at b1 b3 a2;exact⟨om,⟨u1,by rw[IJ a1];exact b1,b2⟩,u2,by rw[IJ a1];exact b3,b4⟩
def AV1 (h:ckF vs Z=some r):Adv Z r.Z/\∀ O w vs' N,Rel B8 O Z w->Cc O Z.n N->r.Z.n<=N->Bm O G->E7 O vs vs'->CG Tryz.prog B8 O 196 vs' Z w r:=by
 unfold ckF at h;split at h
 ·rename_i b;obtain⟨t,g1,h1⟩:=A8 h;clear h;obtain⟨g2,h2⟩:=G7 h1;clear h1;obtain rfl:=Aa g2;obtain⟨cs,g3,h⟩:=A8 h2;clear h2;obtain⟨B,hB,Gg⟩:=W7 g3;split at h
  ·rename_i v2;obtain⟨Z',g4,h⟩:=A8 h;cases h;refine⟨.write g4,fun O w vs' N hR hF hN hG hv=>?_⟩;cases hv with
   |cons hp hv=>
   cases hv;cases hp with
   |I1 hs=>simp[I1]at hs
   | @ptr _ _ q hq=>
   obtain⟨ho,arr,f,ha⟩:=hR.typ hq ⟨B,(y9 hB).1⟩ g1;have FT:=hR.row b q B hq hB;obtain⟨h2,⟨u,hu,hur⟩,_⟩:=OK FT ho Gg;have hun:u= .pointer none:=by cases hur with|I1 hs=>rfl
   subst hun;obtain⟨w1,w2,w3⟩:=hR.write hq g4 (vs':=[.pointer (some ⟨q.c,0,none⟩)]) (.cons (by have:=H3.ptr (off:=0) hq;rwa [ho]at this) .nil) (by simp[K4]);obtain⟨Am6,e,lo,hi,a1,a0,a2,a3,a4,a5⟩:=FT;rw[ha]at a1;cases a1;obtain⟨B',cs',hr1,BC6,_⟩:=JS g4;rw[hB]at hr1;cases hr1;have hfz:=a3 (hR.own b q B hq (y9 hB).1 BC6);have hfr:w.frozen? ⟨q.c,0,none⟩=false:=by
    simp only[World.frozen?,ha];rcases hfz with hh|hh
    ·simp;omega
    ·simp;omega
   have he:LN w q.c (q.o+0) [.pointer (some ⟨q.c,0,none⟩)]=w.setCell ⟨q.c,0,none⟩ (.pointer (some ⟨q.c,0,none⟩)):=by rw[ho];rfl
   rw[he]at w2 w3;have hc:=Zw q.c q.m w hu (by simp[World.shape?,ha,a0]) h2 hfr;rw[show q.o+0=0 from by omega];exact KU Tryz.func196 kR rfl hc w2 w3 (.tuple .nil)
  ·rename_i c v2;obtain⟨g4,h⟩:=G7 h;cases h;obtain rfl:=Aa g4;refine⟨.refl _,fun O w vs' N hR hF hN hG hv=>?_⟩;cases hv with
   |cons hp hv=>
   cases hv;cases hp with
   |I1 hs=>simp[I1]at hs
   | @ptr _ _ q hq=>
   obtain⟨ho,arr,f,ha⟩:=hR.typ hq ⟨B,(y9 hB).1⟩ g1;obtain⟨h2,⟨u,hu,hur⟩,_⟩:=OK (hR.row _ q B hq hB) ho Gg;cases hur with
   |I1 hs=>simp[I1]at hs
   | @ptr _ _ q' hq'=>
   rw[hq]at hq';cases hq';rw[show q.o+0=0 from by omega]at hu ⊢;exact KU Tryz.func196 kR rfl (eN q.c w hu) hR (.refl _ _ _) (.tuple .nil)
  ·cases h
 ·cases h
def mC:∀ {cs:List Value}{l:List UInt8},ej cs=some l->cs.length=l.length/\∀ (j:Nat) (x:UInt8),l[j]? =some x->cs[j]? =some (Value.int .u8 x.toNat):=by
 intro cs;induction cs with
 |nil=>intro l h;cases h;exact⟨rfl,fun j x h=>by simp at h⟩
 | cons v cs ih=>
   intro l h;obtain⟨b,h1,h⟩:=A8 (show ob (uI v) (fun b=>ob (ej cs) fun bs=>some (b::bs))=some l from h);obtain⟨bs,h2,h⟩:=A8 h;cases h;obtain⟨e1,e2⟩:=ih h2;refine⟨by simp[e1],fun j x hj=>?_⟩;cases j with
   | zero=>
     simp at hj;subst hj;unfold uI at h1;split at h1
     ·rename_i n;obtain⟨h3,h4⟩:=G7 h1;cases h4;rw[Bt]at h3;show some (Value.int .u8 (n:Nat))=some (Value.int .u8 ((UInt8.ofNat n).toNat:Nat));rw[show(UInt8.ofNat n).toNat=n from by simp[UInt8.toNat_ofNat'];omega]
     ·cases h1
   |succ j=>simpa using e2 j x (by simpa using hj)
def zt (h:AV0 vs Z=some r):Adv Z r.Z/\∀ O w vs' N,Rel B8 O Z w->Cc O Z.n N->r.Z.n<=N->Bm O G->E7 O vs vs'->CG Tryz.prog B8 O 160 vs' Z w r:=by
 unfold AV0 at h;split at h
 ·rename_i b;obtain⟨t,g1,h1⟩:=A8 h;clear h;obtain⟨g2,h2⟩:=G7 h1;clear h1;obtain rfl:=Aa g2;obtain⟨cs,g3,h⟩:=A8 h2;clear h2;obtain⟨B,hB,Gg⟩:=W7 g3;split at h
  ·rename_i v1 g sp n k;obtain⟨t,g4,h1⟩:=A8 h;clear h;obtain⟨g5,h2⟩:=G7 h1;clear h1;obtain rfl:=Aa g5;obtain⟨g6,h3⟩:=G7 h2;obtain⟨g7,h4⟩:=G7 h3;obtain⟨cs,g8,h5⟩:=A8 h4;obtain⟨l,g9,h6⟩:=A8 h5;obtain⟨Z',g10,h7⟩:=A8 h6;cases h7;clear h2 h3 h4 h5 h6;have e6:=JM g6;have e7:=JM g7;unfold room at e7;obtain⟨Bg,hBg,Ao9⟩:=W7 g8;refine⟨.kill g10,fun O w vs' N hR hF hN hG hv=>?_⟩;cases hv with
   |cons hp hv=>
   cases hv;cases hp with
   |I1 hs=>simp[I1]at hs
   | @ptr _ _ q hq=>
   obtain⟨ho,arr,f,ha⟩:=hR.typ hq ⟨B,(y9 hB).1⟩ g1;obtain⟨h2,_,u,hu,hur⟩:=OK (hR.row b q B hq hB) ho Gg;have fin:∀ (qg:BK) (k':Nat),O g=some qg->u= .slice (some ⟨qg.c,qg.o,none⟩) (n+1) k'->n+1<=k'->CG Tryz.prog B8 O 160 [.pointer (some ⟨q.c,q.o+0,none⟩)] Z w ⟨false,.string ⟨l.toArray⟩,Z'⟩:=by
    intro qg k' hqg hue hk;subst hue;obtain⟨hog,BC7,fg,hag⟩:=hR.typ hqg ⟨Bg,(y9 hBg).1⟩ g4;obtain⟨Am6,e,lo,hi,a1,a0,a2,a3,a4,a5⟩:=hR.row g qg Bg hqg hBg;rw[hag]at a1;cases a1;obtain⟨s1,s2⟩:=sub_eq Ao9;have hlen:cs.length=n+1:=by rw[s2];simp;omega
    obtain⟨u1,u2⟩:=mC g9;have hll:l.length=n+1:=om;have ZD:∀ j x,l[j]? =some x->w.cell? ((⟨qg.c,0,none⟩:Addr).add j)=some (.int .u8 x.toNat):=by
     intro j x hj;have b1:=u2 j x hj;have hjn:j<n+1:=by have:=(List.getElem?_eq_some_iff.1 hj).1;omega
     rw[s2,List.getElem?_take_of_lt hjn,List.getElem?_drop,HC]at b1;obtain⟨v',c1,c2⟩:=a5 j _ b1;rw[hog,HC]at c1;rw[addr_add,IJ hag,HC,c1];cases c2 with
     |I1 _=>rfl
    have hc:=eO q.c qg.c k' BC7.size l w (by rw[hll,<- hog];exact hu) om (by simp[World.shape?,hag]) (by intro he;rw[he]at hll;simp at hll) om om ZD;have hfr:∀ c,c≠qg.c->(w.drew.freeze ⟨qg.c,0,none⟩ l.length).heap[c]? =w.heap[c]? :=by
     intro c hne;unfold World.freeze;split
     ·rfl
     ·show(w.heap.modify qg.c _)[c]? =_;rw[Array.getElem?_modify,z0z (fun h=>hne h.symm)]
    obtain⟨w2,w3⟩:=hR.AP9 hqg g10 (w':=w.drew.freeze ⟨qg.c,0,none⟩ l.length) (by unfold World.freeze;split<;>simp) hfr (by unfold World.freeze;split<;>exact⟨rfl,rfl,rfl⟩);rw[show q.o+0=0 from by omega];exact KU Tryz.func160 kR rfl hc w2 w3 (.I1 rfl)
   cases hur with
   |slice hq'=>exact fin _ _ hq' rfl e6
   |grow hq' hk' hm'=>exact fin _ _ hq' rfl (AV e6 hk')
   |I1 hs=>simp[I1]at hs
  ·cases h
 ·cases h
end
end
end Go.Proofs.T
namespace Go.Proofs.T
open Go Go.Ab Go.RowKit
def zu {B8:Env}{G:Nat}{vs:List Value}{Z:St}{r:CR}(h:gi vs Z=some r):Adv Z r.Z/\∀ O w vs' N,Rel B8 O Z w->Cc O Z.n N->r.Z.n<=N->Bm O G->E7 O vs vs'->CG Tryz.prog B8 O 159 vs' Z w r :=
 qV (g:=159) Tryz.func159 kR rfl
  (fun bk o c xs sep w h1 h2 h3 h4 h5=>Any.strings_Join Tryz.fU Tryz.AE1 bk o c xs sep w h1 h2 h3 h4 h5)
  (fun a c sep w=>Any.strings_Join_none Tryz.fU Tryz.AE1 a c sep w) h
noncomputable def CS:Dq:=fun g=>if g=109 then some fm else if g=159 then some (.plain gi)else if g=160 then some (.plain AV0)else if g=196 then some (.plain ckF)else none
def Ak7 {B8:Env}{G:Nat}(hG:codeOk Tryz.prog 7 G parts.1=true/\codeOk Tryz.prog 7 G parts.2.2.1=true/\codeOk Tryz.prog 7 G parts.2.2.2=true):JV Tryz.prog B8 G CS:=by
 intro g s hs run hE vs Z r h;unfold CS at hs;split at hs
 ·rename_i hg;subst hg;cases hs;exact cD hG hE h
 ·split at hs
  ·rename_i hg;subst hg;cases hs;exact zu h
  ·split at hs
   ·rename_i hg;subst hg;cases hs;exact zt h
   ·split at hs
    ·rename_i hg;subst hg;cases hs;exact AV1 h
    ·cases hs
end Go.Proofs.T
namespace Go.Proofs.T
open Go Go.Ab Go.RowKit
section
variable {vs:List Value}{Z:St}{r:CR}
noncomputable def Mn (c:UInt8) (l:List UInt8):Int:=List.rec (motive:=fun _=>Int) (-1) (fun b _ ih=>bi (Nat.beq b.toNat c.toNat) 0 (bi (ilt ih 0) (-1) (ih+1))) l
noncomputable def qq (c:UInt8) (l:List UInt8):Nat:=List.rec (motive:=fun _=>Nat) 0 (fun b _ ih=>bi (Nat.beq b.toNat c.toNat) (ih+1) ih) l
def dZ (a b:UInt8):Nat.beq a.toNat b.toNat=(a==b):=by
 rw[z7z];constructor
 ·intro h;rw[UInt8.toNat.inj (Aa h)];simp
 ·intro h;rw[eq_of_beq h];exact Nat.beq_refl _
def yC (c:UInt8):∀ l:List UInt8,Mn c l=Lib.indexByte l c:=by
 intro l;induction l with
 |nil=>rfl
 | cons b l ih=>
   show bi (Nat.beq b.toNat c.toNat) 0 (bi (ilt (Mn c l) 0) (-1) (Mn c l+1))=_;rw[ih,dZ];rw[show Lib.indexByte (b::l) c=if (b==c)=true then 0 else if (Lib.indexByte l c== -1)=true then -1 else Lib.indexByte l c+1 from rfl];have hge:=Lib.indexByte_ge l c;generalize Lib.indexByte l c=z at hge ⊢;cases hb:(b==c)with
   |true=>rfl
   | false=>
     rw[BR,z0z (by simp),Nn];by_cases h:z= -1
     ·subst h;rfl
     ·rw[dF,BR,z0z (by simpa using h)]
def yD (c:UInt8):∀ l:List UInt8,qq c l=Lib.countByte l c:=by
 intro l;induction l with
 |nil=>rfl
 | cons b l ih=>
   show bi (Nat.beq b.toNat c.toNat) (qq c l+1) (qq c l)=_;rw[ih,dZ];unfold Lib.countByte;rw[gp];cases hb:(b==c)<;>simp
def yE (n:Int):UInt8:=n.toNat.toUInt8
noncomputable def Ak5 (vs:List Value) (Z:St):Option CR:=match vs with
 | [.string s,.int .u8 n]=>some ⟨false,.int .i64 (Mn (yE n) s.data.toList),Z⟩
 |_=>none
noncomputable def Ak6 (vs:List Value) (Z:St):Option CR:=match vs with
 | [.string s,.int .u8 n]=>some ⟨false,.int .i64 (qq (yE n) s.data.toList:Nat),Z⟩
 |_=>none
section
variable {B8:Env}{G:Nat}
def qu {g:Nat}{fn:Func}(hf:Tryz.prog.funcs[g]? =some fn) (hn:(fn.name== "runtime.NumGoroutine")=false){F:ByteArray->Int->Int}
  (En:∀ s n w,(callFunc g #[.string s,.int .u8 n]).run Tryz.prog w= .ok (.value (.int .i64 (F s n))) w) {vs:List Value}{Z:St}{r:CR}
  (h:(match vs with|[.string s,.int .u8 n]=>some ⟨false,.int .i64 (F s n),Z⟩|_=>none)=some r):Adv Z r.Z/\∀ O w vs' N,Rel B8 O Z w->Cc O Z.n N->r.Z.n<=N->Bm O G->E7 O vs vs'->CG Tryz.prog B8 O g vs' Z w r:=by
 split at h
 ·rename_i s n;cases h;refine⟨.refl _,fun O w vs' N hR hF hN hG hv=>?_⟩;cases hv with
  |cons h1 hv=>
  cases hv with
  |cons h2 hv=>
  cases hv;cases h1;cases h2;exact⟨fn,hf,hn,.inr ⟨_,En s n w,rfl,rfl,.I1 rfl⟩⟩
 ·cases h
def yF (h:Ak5 vs Z=some r):Adv Z r.Z/\∀ O w vs' N,Rel B8 O Z w->Cc O Z.n N->r.Z.n<=N->Bm O G->E7 O vs vs'->CG Tryz.prog B8 O 295 vs' Z w r :=
 qu (F:=fun s n=>Mn (yE n) s.data.toList) Tryz.func295 kR (fun s n w=>by
  rw[run_callFunc_extern Tryz.func295 kR kR kR (e:=Extern.BytealgIndexByte.indexByte) kR,Lib.run_indexByteString,yC];rfl) h
def yG (h:Ak6 vs Z=some r):Adv Z r.Z/\∀ O w vs' N,Rel B8 O Z w->Cc O Z.n N->r.Z.n<=N->Bm O G->E7 O vs vs'->CG Tryz.prog B8 O 281 vs' Z w r :=
 qu (F:=fun s n=>(qq (yE n) s.data.toList:Nat)) Tryz.func281 kR (fun s n w=>by
  rw[run_callFunc_extern Tryz.func281 kR kR kR (e:=Extern.BytealgCount.count) kR,Lib.run_countString,yD];rfl) h
end
noncomputable def CS1:Dq:=fun g=>if g=295 then some (.plain Ak5)else if g=281 then some (.plain Ak6)else CS g
def AF8 {B8:Env}{G:Nat}(hG:codeOk Tryz.prog 7 G parts.1=true/\codeOk Tryz.prog 7 G parts.2.2.1=true/\codeOk Tryz.prog 7 G parts.2.2.2=true):JV Tryz.prog B8 G CS1:=by
 intro g s hs run hE vs Z r h;unfold CS1 at hs;split at hs
 ·rename_i hg;subst hg;cases hs;exact yF h
 ·split at hs
  ·rename_i hg;subst hg;cases hs;exact yG h
  ·exact Ak7 hG g s hs run hE vs Z r h
end
end Go.Proofs.T
