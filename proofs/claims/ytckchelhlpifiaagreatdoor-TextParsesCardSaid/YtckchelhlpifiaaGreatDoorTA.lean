/- Pz on the types of the CV. -/
import Derived.Test.YtckchelhlpifiaaGreatDoorAbD
import Derived.Test.YtckchelhlpifiaaGreatDoorProg
import Derived.Shelf.Strings.OnBuilder
import Derived.Lib.Bytealg
set_option linter.unusedSimpArgs false
set_option linter.unusedVariables false
set_option linter.defProp false
set_option maxHeartbeats 32000000
set_option maxRecDepth 100000
namespace Go.Proofs.T
open Go Go.Ab
section
variable {z:List Value}{ps:List (Nat×Value)}
section
abbrev LDo (t:Nat):Prop:=∀ {fr:Fr}{Z:St}{a:Operand},Hw Tryz.prog fr Z t a=ob (ev fr a) fun v=>ob (at? v) fun p=>pr p fun b off=>ob (ob (Z.read b off 1) KR) fun v=>some (v,⟨b,off,1⟩)
abbrev LDn (t n:Nat):Prop:=∀ {fr:Fr}{Z:St}{a:Operand},Hw Tryz.prog fr Z t a=ob (ev fr a) fun v=>ob (at? v) fun p=>pr p fun b off=>ob (ob (Z.read b off n) fun cs=>some (.agg ⟨cs⟩)) fun v=>some (v,⟨b,off,n⟩)
abbrev LVo (t:Nat):Prop:=∀ {Z:St}{b off:Nat},OC Tryz.prog Z t (.pointer (some ⟨b,off,none⟩))=ob (Z.read b off 1) KR
abbrev LVn (t n:Nat):Prop:=∀ {Z:St}{b off:Nat},OC Tryz.prog Z t (.pointer (some ⟨b,off,none⟩))=ob (Z.read b off n) fun cs=>some (.agg ⟨cs⟩)
abbrev STn (t n:Nat):Prop:=∀ {fr:Fr}{Z:St}{a v:Operand},Gq Tryz.prog fr Z t a v=ob (ev fr a) fun a=>ob (ev fr v) fun v=>ob (ob (at? a) fun p=>pr p fun b off=>bi (EZ v) none (bb ((G6 v).length.beq n) (Z.write b off (G6 v)))) fun Z=>some (Q8,Z)
abbrev FAo (t k:Nat):Prop:=∀ {fr:Fr}{x:Operand},AE Tryz.prog fr t x k=ob (ev fr x) fun v=>ob (at? v) fun p=>pr p fun b off=>some (.pointer (some ⟨b,off,none⟩))
abbrev FAn (t k n:Nat):Prop:=∀ {fr:Fr}{x:Operand},AE Tryz.prog fr t x k=ob (ev fr x) fun v=>ob (at? v) fun p=>pr p fun b off=>some (.pointer (some ⟨b,off+n,none⟩))
abbrev FIo (t k o:Nat):Prop:=∀ {fr:Fr}{x:Operand},Fy Tryz.prog fr t x k=ob (ev fr x) fun v=>ob (iY v) fun cs=>ob (sub cs o 1) KR
abbrev FIn (t k o n:Nat):Prop:=∀ {fr:Fr}{x:Operand},Fy Tryz.prog fr t x k=ob (ev fr x) fun v=>ob (iY v) fun cs=>ob (sub cs o n) fun cs=>some (.agg ⟨cs⟩)
abbrev IAs (t w:Nat):Prop:=∀ {b off len cap i:Nat}{s:Option Nat},Gk Tryz.prog t (.slice (some ⟨b,off,s⟩) len cap) i=bb (Nat.blt i len) (some (.pointer (some ⟨b,off+i*w,none⟩)))
abbrev APn (t w m e:Nat):Prop:=∀ {Z:St}{b:Option Addr}{len cap:Nat}{w':Value},KE Tryz.prog Z t (.slice b len cap) w'=ob (DF Z w w') fun p=>pr p fun n new=>bi (Nat.ble (len+n) cap) (FR Z w b len cap n new) (bb (Nat.ble ((len+n)*m) room) (DZ e Z w b len n new))
abbrev SSn (t w:Nat):Prop:=∀ {b:Option Addr}{len cap:Nat}{lo hi:Option Value},Ud Tryz.prog t (.slice b len cap) lo hi=ob (Zs len cap lo hi) fun p=>pr p fun lo hi=>sliceAt w b lo hi cap
abbrev SLn (t w:Nat) (z:List Value):Prop:=∀ {fr:Fr}{len:Nat}{parts:Array (Nat×Operand)},Fq Tryz.prog fr t len parts=ob (evs fr (parts.toList.map (·.2))) fun vs=>bb (Nat.ble (len*w) 16777216) (ob (Ai (fun i=>some (i*w,w)) ((parts.toList.map (·.1)).zip vs) (rep z len)) fun l=>some (l,fun n=> .slice (some ⟨n,0,none⟩) len len))
abbrev MKn (t m:Nat) (z:List Value):Prop:=∀ {fr:Fr}{l c:Operand},PA Tryz.prog fr t l c=ob (evN fr l) fun l=>ob (evN fr c) fun c=>bb (Nat.ble l c) (bb (Nat.ble (c*m) room) (some (rep z c,fun n=> .slice (some ⟨n,0,none⟩) l c)))
abbrev BVn (t w n:Nat):Prop:=∀ {z:List Value}{ps:List (Nat×Value)},AU Tryz.prog t z ps=ob (Ai (fun i=>some (i*w,n)) ps z) fun l=>some (.agg ⟨l⟩)
end
section
variable {fr:Fr}{Z:St}{x ix a v:Operand}{ve:Value}
def ld3:LDo 3:=by unfold LDo;intros;kernel_rfl
def st3:STn 3 1:=by unfold STn;intros;kernel_rfl
def ld4:LDo 4:=by unfold LDo;intros;kernel_rfl
def st4:STn 4 1:=by unfold STn;intros;kernel_rfl
def ld5:LDo 5:=by unfold LDo;intros;kernel_rfl
def st5:STn 5 1:=by unfold STn;intros;kernel_rfl
def ld9:LDo 9:=by unfold LDo;intros;kernel_rfl
def st9:STn 9 1:=by unfold STn;intros;kernel_rfl
def BA4:LDo 22:=by unfold LDo;intros;kernel_rfl
def BA5:STn 22 1:=by unfold STn;intros;kernel_rfl
def BE5:AV Tryz.prog 22=some ([.slice none 0 0],ptrTo):=kR
def BE6:IAs 22 1:=by unfold IAs;intros;kernel_rfl
def P9:APn 22 1 9 3:=by unfold APn;intros;kernel_rfl
def BE7:SSn 22 1:=by unfold SSn;intros;kernel_rfl
def BA6:SLn 22 1 [.int .i64 0]:=by unfold SLn;intros;kernel_rfl
def BA7:MKn 22 9 [.int .i64 0]:=by unfold MKn;intros;kernel_rfl
def BA8:LDo 28:=by unfold LDo;intros;kernel_rfl
def BA9:STn 28 1:=by unfold STn;intros;kernel_rfl
def BE8:IAs 28 2:=by unfold IAs;intros;kernel_rfl
def N5:APn 28 2 17 61:=by unfold APn;intros;kernel_rfl
def BB0:SLn 28 2 [.int .i64 0,.int .i64 0]:=by unfold SLn;intros;kernel_rfl
def BB1:LDo 29:=by unfold LDo;intros;kernel_rfl
def BB2:STn 29 1:=by unfold STn;intros;kernel_rfl
def BE9:IAs 29 5:=by unfold IAs;intros;kernel_rfl
def N9:APn 29 5 49 64:=by unfold APn;intros;kernel_rfl
def BB3:SLn 29 5 [str [],.int .i64 0,.int .i64 0,.int .i64 0,.bool false]:=by unfold SLn;intros;kernel_rfl
def BB4:LDo 30:=by unfold LDo;intros;kernel_rfl
def BB5:STn 30 1:=by unfold STn;intros;kernel_rfl
def BF0:IAs 30 3:=by unfold IAs;intros;kernel_rfl
def N6:APn 30 3 41 66:=by unfold APn;intros;kernel_rfl
def BB6:SLn 30 3 [str [],str [],.int .i64 0]:=by unfold SLn;intros;kernel_rfl
def BB7:LDn 32 2:=by unfold LDn;intros;kernel_rfl
def BF1:LVn 32 2:=by unfold LVn;intros;kernel_rfl
def BB8:STn 32 2:=by unfold STn;intros;kernel_rfl
def BF2:AV Tryz.prog 32=some ([.int .i64 0,.int .i64 0],ptrTo):=kR
def BF3:u7 Tryz.prog 32=some (.agg ⟨[.int .i64 0,.int .i64 0]⟩):=kR
def BF4:AU Tryz.prog 32 z ps=ob (Ai (fun i=>[(0,1),(1,1)][i]?) ps z) fun l=>some (.agg ⟨l⟩):=kR
def AQ8:FAo 32 0:=by unfold FAo;intros;kernel_rfl
def AQ9:FAn 32 1 1:=by unfold FAn;intros;kernel_rfl
def BB9:LDo 33:=by unfold LDo;intros;kernel_rfl
def BF5:IAs 33 5:=by unfold IAs;intros;kernel_rfl
def K6:APn 33 5 73 35:=by unfold APn;intros;kernel_rfl
def BC0:SLn 33 5 [str [],.int .i64 0,.int .i64 0,str [],.slice none 0 0]:=by unfold SLn;intros;kernel_rfl
def BC1:LDn 35 5:=by unfold LDn;intros;kernel_rfl
def BF6:LVn 35 5:=by unfold LVn;intros;kernel_rfl
def BC2:STn 35 5:=by unfold STn;intros;kernel_rfl
def BF7:AV Tryz.prog 35=some ([str [],.int .i64 0,.int .i64 0,str [],.slice none 0 0],ptrTo):=kR
def BF8:u7 Tryz.prog 35=some (.agg ⟨[str [],.int .i64 0,.int .i64 0,str [],.slice none 0 0]⟩):=kR
def BF9:AU Tryz.prog 35 z ps=ob (Ai (fun i=>[(0,1),(1,2),(3,1),(4,1)][i]?) ps z) fun l=>some (.agg ⟨l⟩):=kR
def AR0:FAo 35 0:=by unfold FAo;intros;kernel_rfl
def AR1:FAn 35 1 1:=by unfold FAn;intros;kernel_rfl
def AR2:FAn 35 2 3:=by unfold FAn;intros;kernel_rfl
def AR3:FAn 35 3 4:=by unfold FAn;intros;kernel_rfl
def BC3:LDo 36:=by unfold LDo;intros;kernel_rfl
def BC4:STn 36 1:=by unfold STn;intros;kernel_rfl
def BG0:IAs 36 1:=by unfold IAs;intros;kernel_rfl
def M4:APn 36 1 17 9:=by unfold APn;intros;kernel_rfl
def BG1:SSn 36 1:=by unfold SSn;intros;kernel_rfl
def BC5:SLn 36 1 [str []]:=by unfold SLn;intros;kernel_rfl
def BC6:MKn 36 17 [str []]:=by unfold MKn;intros;kernel_rfl
def BC7:LDo 37:=by unfold LDo;intros;kernel_rfl
def BC8:STn 37 1:=by unfold STn;intros;kernel_rfl
def BG2:IAs 37 1:=by unfold IAs;intros;kernel_rfl
def M5:APn 37 1 25 22:=by unfold APn;intros;kernel_rfl
def BC9:SLn 37 1 [.slice none 0 0]:=by unfold SLn;intros;kernel_rfl
def BD0:LDn 39 5:=by unfold LDn;intros;kernel_rfl
def BD1:STn 39 5:=by unfold STn;intros;kernel_rfl
def BG3:AV Tryz.prog 39=some ([.int .i64 0,.int .i64 0,.int .i64 0,.int .i64 0,.int .i64 0],ptrTo):=kR
def AR4:FAo 39 0:=by unfold FAo;intros;kernel_rfl
def AR5:FAn 39 1 1:=by unfold FAn;intros;kernel_rfl
def AR6:FAn 39 2 2:=by unfold FAn;intros;kernel_rfl
def AR7:FAn 39 3 3:=by unfold FAn;intros;kernel_rfl
def AR8:FAn 39 4 4:=by unfold FAn;intros;kernel_rfl
def BD2:LDn 41 20:=by unfold LDn;intros;kernel_rfl
def BG4:LVn 41 20:=by unfold LVn;intros;kernel_rfl
def BD3:STn 41 20:=by unfold STn;intros;kernel_rfl
def BG5:AV Tryz.prog 41=some ([str [],.slice none 0 0,.slice none 0 0,.slice none 0 0,.int .i64 0,.int .i64 0,str [],.int .i64 0,.int .i64 0,str [],.slice none 0 0,.slice none 0 0,.int .i64 0,.slice none 0 0,.int .i64 0,.int .i64 0,.int .i64 0,.int .i64 0,.int .i64 0,.int .i64 0],ptrTo):=kR
def tR:u7 Tryz.prog 41=some (.agg ⟨[str [],.slice none 0 0,.slice none 0 0,.slice none 0 0,.int .i64 0,.int .i64 0,str [],.int .i64 0,.int .i64 0,str [],.slice none 0 0,.slice none 0 0,.int .i64 0,.slice none 0 0,.int .i64 0,.int .i64 0,.int .i64 0,.int .i64 0,.int .i64 0,.int .i64 0]⟩):=kR
def tQ:AU Tryz.prog 41 z ps=ob (Ai (fun i=>[(0,1),(1,1),(2,1),(3,1),(4,1),(5,1),(6,5),(11,1),(12,1),(13,1),(14,1),(15,5)][i]?) ps z) fun l=>some (.agg ⟨l⟩):=kR
def AR9:FAo 41 0:=by unfold FAo;intros;kernel_rfl
def AS0:FAn 41 1 1:=by unfold FAn;intros;kernel_rfl
def AS1:FAn 41 2 2:=by unfold FAn;intros;kernel_rfl
def AS2:FAn 41 3 3:=by unfold FAn;intros;kernel_rfl
def AS3:FAn 41 4 4:=by unfold FAn;intros;kernel_rfl
def AS4:FAn 41 5 5:=by unfold FAn;intros;kernel_rfl
def AS5:FAn 41 6 6:=by unfold FAn;intros;kernel_rfl
def AS6:FAn 41 7 11:=by unfold FAn;intros;kernel_rfl
def AS7:FAn 41 8 12:=by unfold FAn;intros;kernel_rfl
def AS8:FAn 41 9 13:=by unfold FAn;intros;kernel_rfl
def xu:FAn 41 10 14:=by unfold FAn;intros;kernel_rfl
def xw:FAn 41 11 15:=by unfold FAn;intros;kernel_rfl
def BG6:IAs 43 1:=by unfold IAs;intros;kernel_rfl
def K7:APn 43 1 2 5:=by unfold APn;intros;kernel_rfl
def BD4:SLn 43 1 [.int .u8 0]:=by unfold SLn;intros;kernel_rfl
def BD5:LDo 47:=by unfold LDo;intros;kernel_rfl
def BD6:STn 47 1:=by unfold STn;intros;kernel_rfl
def BD7:LDn 61 2:=by unfold LDn;intros;kernel_rfl
def BG7:u7 Tryz.prog 61=some (.agg ⟨[.int .i64 0,.int .i64 0]⟩):=kR
def BG8:AU Tryz.prog 61 z ps=ob (Ai (fun i=>[(0,1),(1,1)][i]?) ps z) fun l=>some (.agg ⟨l⟩):=kR
def AS9:FAo 61 0:=by unfold FAo;intros;kernel_rfl
def AT0:FAn 61 1 1:=by unfold FAn;intros;kernel_rfl
def BD8:LDn 64 5:=by unfold LDn;intros;kernel_rfl
def BD9:STn 64 5:=by unfold STn;intros;kernel_rfl
def BG9:AV Tryz.prog 64=some ([str [],.int .i64 0,.int .i64 0,.int .i64 0,.bool false],ptrTo):=kR
def BH0:u7 Tryz.prog 64=some (.agg ⟨[str [],.int .i64 0,.int .i64 0,.int .i64 0,.bool false]⟩):=kR
def BH1:AU Tryz.prog 64 z ps=ob (Ai (fun i=>[(0,1),(1,1),(2,1),(3,1),(4,1)][i]?) ps z) fun l=>some (.agg ⟨l⟩):=kR
def AT1:FAo 64 0:=by unfold FAo;intros;kernel_rfl
def AT2:FAn 64 1 1:=by unfold FAn;intros;kernel_rfl
def AT3:FAn 64 2 2:=by unfold FAn;intros;kernel_rfl
def AT4:FAn 64 3 3:=by unfold FAn;intros;kernel_rfl
def AT5:FAn 64 4 4:=by unfold FAn;intros;kernel_rfl
def BE0:LDn 66 3:=by unfold LDn;intros;kernel_rfl
def BE1:STn 66 3:=by unfold STn;intros;kernel_rfl
def BH2:AV Tryz.prog 66=some ([str [],str [],.int .i64 0],ptrTo):=kR
def BH3:u7 Tryz.prog 66=some (.agg ⟨[str [],str [],.int .i64 0]⟩):=kR
def BH4:AU Tryz.prog 66 z ps=ob (Ai (fun i=>[(0,1),(1,1),(2,1)][i]?) ps z) fun l=>some (.agg ⟨l⟩):=kR
def AT6:FAo 66 0:=by unfold FAo;intros;kernel_rfl
def AT7:FAn 66 1 1:=by unfold FAn;intros;kernel_rfl
def AT8:FAn 66 2 2:=by unfold FAn;intros;kernel_rfl
def BH5:LVn 71 2:=by unfold LVn;intros;kernel_rfl
def BE2:STn 71 2:=by unfold STn;intros;kernel_rfl
def BH6:AV Tryz.prog 71=some ([.int .i64 0,.int .i64 0],ptrTo):=kR
def BH7:u7 Tryz.prog 71=some (.agg ⟨[.int .i64 0,.int .i64 0]⟩):=kR
def BH8:AU Tryz.prog 71 z ps=ob (Ai (fun i=>[(0,1),(1,1)][i]?) ps z) fun l=>some (.agg ⟨l⟩):=kR
def AT9:FAo 71 0:=by unfold FAo;intros;kernel_rfl
def AU0:FAn 71 1 1:=by unfold FAn;intros;kernel_rfl
def BE3:LDo 75:=by unfold LDo;intros;kernel_rfl
def BH9:IAs 75 2:=by unfold IAs;intros;kernel_rfl
def K8:APn 75 2 25 106:=by unfold APn;intros;kernel_rfl
def BE4:SLn 75 2 [str [],.int .i64 0]:=by unfold SLn;intros;kernel_rfl
def Ak4:LDo 78:=by unfold LDo;intros;kernel_rfl
def Ak5:LDo 99:=by unfold LDo;intros;kernel_rfl
def Al7:u7 Tryz.prog 101=some (.agg ⟨[.slice none 0 0,.int .i64 0]⟩):=kR
def Al8:AU Tryz.prog 101 z ps=ob (Ai (fun i=>[(0,1),(1,1)][i]?) ps z) fun l=>some (.agg ⟨l⟩):=kR
def xx:FAo 101 0:=by unfold FAo;intros;kernel_rfl
def xy:FAn 101 1 1:=by unfold FAn;intros;kernel_rfl
def Ak6:LDo 102:=by unfold LDo;intros;kernel_rfl
def Al9:u7 Tryz.prog 104=some (.agg ⟨[.slice none 0 0,.int .i64 0,str [],.int .i64 0,.pointer none]⟩):=kR
def Am0:AU Tryz.prog 104 z ps=ob (Ai (fun i=>[(0,2),(2,1),(3,1),(4,1)][i]?) ps z) fun l=>some (.agg ⟨l⟩):=kR
def xz:FAo 104 0:=by unfold FAo;intros;kernel_rfl
def yA:FAn 104 1 2:=by unfold FAn;intros;kernel_rfl
def yB:FAn 104 2 3:=by unfold FAn;intros;kernel_rfl
def yC:FAn 104 3 4:=by unfold FAn;intros;kernel_rfl
def Ak7:LDn 106 2:=by unfold LDn;intros;kernel_rfl
def Am1:LVn 106 2:=by unfold LVn;intros;kernel_rfl
def Ak8:STn 106 2:=by unfold STn;intros;kernel_rfl
def Am2:AV Tryz.prog 106=some ([str [],.int .i64 0],ptrTo):=kR
def Am3:u7 Tryz.prog 106=some (.agg ⟨[str [],.int .i64 0]⟩):=kR
def Am4:AU Tryz.prog 106 z ps=ob (Ai (fun i=>[(0,1),(1,1)][i]?) ps z) fun l=>some (.agg ⟨l⟩):=kR
def yD:FAo 106 0:=by unfold FAo;intros;kernel_rfl
def yE:FIo 106 0 0:=by unfold FIo;intros;kernel_rfl
def yF:FAn 106 1 1:=by unfold FAn;intros;kernel_rfl
def yG:FIo 106 1 1:=by unfold FIo;intros;kernel_rfl
def Ak9:LDo 108:=by unfold LDo;intros;kernel_rfl
def Al0:LDo 109:=by unfold LDo;intros;kernel_rfl
def Al1:STn 111 3:=by unfold STn;intros;kernel_rfl
def Am5:AV Tryz.prog 111=some ([.nilFunc,.bool false,.nilFunc],ptrTo):=kR
def Am6:u7 Tryz.prog 111=some (.agg ⟨[.nilFunc,.bool false,.nilFunc]⟩):=kR
def Am7:AU Tryz.prog 111 z ps=ob (Ai (fun i=>[(0,1),(1,1),(2,1)][i]?) ps z) fun l=>some (.agg ⟨l⟩):=kR
def yH:FAo 111 0:=by unfold FAo;intros;kernel_rfl
def yI:FAn 111 1 1:=by unfold FAn;intros;kernel_rfl
def yJ:FAn 111 2 2:=by unfold FAn;intros;kernel_rfl
def Am8:u7 Tryz.prog 116=some (.agg ⟨[.slice none 0 0,.int .i64 0,.int .i64 0]⟩):=kR
def Am9:AU Tryz.prog 116 z ps=ob (Ai (fun i=>[(0,2),(2,1)][i]?) ps z) fun l=>some (.agg ⟨l⟩):=kR
def yK:FAo 116 0:=by unfold FAo;intros;kernel_rfl
def yL:FAn 116 1 2:=by unfold FAn;intros;kernel_rfl
def Al2:LDn 118 6:=by unfold LDn;intros;kernel_rfl
def An0:LVn 118 6:=by unfold LVn;intros;kernel_rfl
def Al3:STn 118 6:=by unfold STn;intros;kernel_rfl
def An1:AV Tryz.prog 118=some ([str [],.int .i64 0,.int .i64 0,str [],.slice none 0 0,.int .i64 0],ptrTo):=kR
def An2:u7 Tryz.prog 118=some (.agg ⟨[str [],.int .i64 0,.int .i64 0,str [],.slice none 0 0,.int .i64 0]⟩):=kR
def An3:AU Tryz.prog 118 z ps=ob (Ai (fun i=>[(0,5),(5,1)][i]?) ps z) fun l=>some (.agg ⟨l⟩):=kR
def yM:FAo 118 0:=by unfold FAo;intros;kernel_rfl
def yN:FAn 118 1 5:=by unfold FAn;intros;kernel_rfl
def Al4:LDo 160:=by unfold LDo;intros;kernel_rfl
def An4:IAs 184 1:=by unfold IAs;intros;kernel_rfl
def H8:APn 184 1 9 78:=by unfold APn;intros;kernel_rfl
def Al5:SLn 184 1 [.pointer none]:=by unfold SLn;intros;kernel_rfl
def An5:u7 Tryz.prog 239=some (.agg ⟨[.bool false,.int .u64 0,.int .u64 0]⟩):=kR
def An6:AU Tryz.prog 239 z ps=ob (Ai (fun i=>[(0,1),(1,1),(2,1)][i]?) ps z) fun l=>some (.agg ⟨l⟩):=kR
def yO:FAo 239 0:=by unfold FAo;intros;kernel_rfl
def yP:FAn 239 1 1:=by unfold FAn;intros;kernel_rfl
def yQ:FAn 239 2 2:=by unfold FAn;intros;kernel_rfl
def An7:u7 Tryz.prog 250=some (.agg ⟨[.int .u64 0,.int .u64 0]⟩):=kR
def An8:AU Tryz.prog 250 z ps=ob (Ai (fun i=>[(0,1),(1,1)][i]?) ps z) fun l=>some (.agg ⟨l⟩):=kR
def yR:FAo 250 0:=by unfold FAo;intros;kernel_rfl
def yS:FAn 250 1 1:=by unfold FAn;intros;kernel_rfl
end
end
end Go.Proofs.T
namespace Go.Proofs
open Go.Shelf
def Tryz.Np:Go.Shelf.Ren:=⟨fun|156=>56|165=>110|166=>55|169=>58|240=>109|241=>155|276=>154|277=>186|n=>n,fun|31=>36|9=>9|3=>3|4=>4|0=>0|20=>20|72=>124|76=>127|70=>122|37=>43|75=>126|127=>158|164=>189|5=>5|80=>133|n=>n,fun|n=>n⟩
def Tryz.dJ:Go.Proofs.Lays.n156 Tryz.prog Tryz.Np:={
 mixed:=by kernel_rfl
 f156:=Tryz.func56.trans (congrArg some (by kernel_rfl))
 f165:=Tryz.func110.trans (congrArg some (by kernel_rfl))
 f166:=Tryz.func55.trans (congrArg some (by kernel_rfl))
 f169:=Tryz.func58.trans (congrArg some (by kernel_rfl))
 f240:=Tryz.func109.trans (congrArg some (by kernel_rfl))
 f241:=Tryz.func155.trans (congrArg some (by kernel_rfl))
 f276:=Tryz.func154.trans (congrArg some (by kernel_rfl))
 f277:=Tryz.func186.trans (congrArg some (by kernel_rfl))
 t0:=Tryz.underlying0
 a0:=Tryz.isAgg0
 z0:=Tryz.sizeOf0
 v0:=Tryz.zeroValue0
 t3:=Tryz.underlying3
 a3:=Tryz.isAgg3
 z3:=Tryz.sizeOf3
 v3:=Tryz.zeroValue3
 t4:=Tryz.underlying4
 a4:=Tryz.isAgg4
 z4:=Tryz.sizeOf4
 v4:=Tryz.zeroValue4
 t9:=Tryz.underlying9
 a9:=Tryz.isAgg9
 z9:=Tryz.sizeOf9
 v9:=Tryz.zeroValue9
 t20:=Tryz.underlying20
 a20:=Tryz.isAgg20
 z20:=Tryz.sizeOf20
 v20:=Tryz.zeroValue20
 t31:=Tryz.underlying36
 a31:=Tryz.isAgg36
 z31:=Tryz.sizeOf36
 v31:=Tryz.zeroValue36
 t37:=Tryz.underlying43
 a37:=Tryz.isAgg43
 z37:=Tryz.sizeOf43
 v37:=Tryz.zeroValue43
 t70:=Tryz.underlying122
 a70:=Tryz.isAgg122
 z70:=Tryz.sizeOf122
 v70:=Tryz.zeroValue122
 t72:=Tryz.underlying124
 a72:=Tryz.isAgg124
 z72:=Tryz.sizeOf124
 v72:=Tryz.zeroValue124
 t75:=Tryz.underlying126
 a75:=Tryz.isAgg126
 z75:=Tryz.sizeOf126
 v75:=Tryz.zeroValue126
 t76:=Tryz.underlying127
 a76:=Tryz.isAgg127
 z76:=Tryz.sizeOf127
 v76:=Tryz.zeroValue127
 t127:=Tryz.underlying158
 a127:=Tryz.isAgg158
 z127:=Tryz.sizeOf158
 v127:=Tryz.zeroValue158
 t164:=Tryz.underlying189
 a164:=Tryz.isAgg189
 z164:=Tryz.sizeOf189
 v164:=Tryz.zeroValue189 }
def Tryz.zK:Builder.Extra Tryz.prog Tryz.Np:={
 sizeBuilder:=by kernel_rfl
 liesBuilder:=by kernel_rfl
 t5:=Tryz.underlying5
 a5:=Tryz.isAgg5
 z5:=Tryz.sizeOf5
 v5:=Tryz.zeroValue5
 infoByte:=by kernel_rfl
 cellsByte:=by kernel_rfl
 sizeByte:=by kernel_rfl
 neB5:=by decide }
end Go.Proofs
namespace Go.Proofs.T
open Go Go.Ab Go.RowKit
def kK {P:Program}{e s m:Nat}(hb:Nat.ble 1 P.depth=true) (hs:P.cellsOf e=s) (h0:0<s) (hm:s<=m):liesAt P P.depth e (m / P.cellsOf e) 0 e 1=true:=by
 obtain⟨d,hd⟩:∃ d,P.depth=d+1:=⟨P.depth-1,by have:=JO hb;omega⟩
 rw[hd];unfold liesAt;rw[hd];have h1:1<=m / s:=(Nat.le_div_iff_mul_le h0).2 om;have hr:rowAt P (sameLayout P (d+1) · e) (d+1) e (m / P.cellsOf e) 0 1=true:=by
  unfold rowAt;rw[hs];simp only[z0z (show ¬ s=0 by omega),Nat.zero_div,pG,beq_self_eq_true,DL];have:sameLayout P (d+1) e e=true:=by unfold sameLayout;simp
  rw[this];simp[h1]
 rw[hr];rfl
def cA (c:Nat) (w:World) (h0:w.cell? ⟨c,0,none⟩=some (.pointer (some ⟨c,0,none⟩))) :
  Calls Tryz.prog 109 #[.pointer (some ⟨c,0,none⟩)] w fun e w'=>e= .returned (.tuple #[])/\w'=w:=by
 obtain⟨j,hj,_⟩:=zr.1 (show(Tryz.prog.info? 124).map (·.size)=some 2 by kernel_rfl)
 go_enter Tryz.func109,Tryz.ntmps109
 go_wp2
 rw[Lib.run_neq_ptr_same w _ Tryz.underlying122 hj]
 go_wp2
 go_end0
 exact⟨rfl,rfl⟩
def YV (c m:Nat) (w:World) (h0:w.cell? ⟨c,0,none⟩=some (.pointer none)) (hsh:w.shape? c=some (124,m)) (hm:2<=m) (hfz:w.frozen? ⟨c,0,none⟩=false) :
  Calls Tryz.prog 109 #[.pointer (some ⟨c,0,none⟩)] w fun e w'=>e= .returned (.tuple #[])/\w'=w.setCell ⟨c,0,none⟩ (.pointer (some ⟨c,0,none⟩)):=by
 obtain⟨j,hj,hjs⟩:=zr.1 (show(Tryz.prog.info? 124).map (·.size)=some 2 by kernel_rfl)
 go_enter Tryz.func109,Tryz.ntmps109
 go_wp2
 rw[Lib.run_to_unsafe w ⟨c,0,none⟩ Tryz.underlying122 Tryz.underlying189 hj (by rw[hjs];decide) hsh (by show 0<m;omega)];simp only[Result.andThen];rw[qb]
 go_wp2
 rw[run_callFunc_extern Tryz.func154 kR kR kR (e:=Extern.AbiNoEscape.same) kR];rw[Lib.run_noEscape];simp only[Result.andThen];rw[qb]
 go_wp2
 rw[Lib.run_from_unsafe w ⟨c,0,none⟩ Tryz.underlying189 Tryz.underlying122 hj hsh (kK kR (s:=2) kR om hm)];simp only[Result.andThen];rw[qb]
 go_wp2
 go_end0
 exact⟨rfl,rfl⟩
def cB (c g cap cells:Nat) (l:List UInt8) (w:World) (hc:w.cell? ⟨c,1,none⟩=some (.slice (some ⟨g,0,none⟩) l.length cap)) (gf:l.length<=cap) (hsh:w.shape? g=some (5,cells)) (h0:l≠[]) (hn:l.length<=cells) (h63:l.length<=9223372036854775807)
  (Xu:∀ j x,l[j]? =some x->w.cell? ((⟨g,0,none⟩:Addr).add j)=some (.int .u8 x.toNat)) :
  Calls Tryz.prog 58 #[.pointer (some ⟨c,0,none⟩)] w fun e w'=>e= .returned (.string ⟨l.toArray⟩)/\w'=w.drew.freeze ⟨g,0,none⟩ l.length:=by
 have hl:l.length≠0:=by simpa using h0
 have c1:w.drew.cell? ⟨c,1,none⟩=some (.slice (some ⟨g,0,none⟩) l.length cap):=hc
 have hSD:(Builtin.unsafeSliceData_ #[43] 158 #[.slice (some ⟨g,0,none⟩) l.length cap]).run Tryz.prog w.drew= .ok (.pointer (some ⟨g,0,none⟩)) w.drew :=
  Lib.run_unsafeSliceData_row _ _ _ _ _ _ om
 have hUS:(Builtin.unsafeString_ #[158,3] 9 #[.pointer (some ⟨g,0,none⟩),.int .i64 l.length]).run Tryz.prog w.drew= .ok (.string ⟨l.toArray⟩) (w.drew.freeze ⟨g,0,none⟩ l.length) :=
  Lib.run_unsafeString_row w.drew 158 3 9 5 Tryz.underlying158 kR g cells hsh l h0 hn h63 Xu
 have mixed:Tryz.prog.follows .mixedOrders=true:=kR
 go_enter Tryz.func58,Tryz.ntmps58
 go_wp2
 go_region_o
 all_goals (go_wp2;go_ret;exact⟨rfl,rfl⟩)
end Go.Proofs.T
namespace Go.Proofs.T
open Go Go.Ab
section
variable {e:Operand->Value}{v p u:Value}{x:Operand}
def AZ7 (x:Value) (w:World):(invoke (.fn (.func 42) #[x]) #[]).run Tryz.prog w= .ok (.enter 42 #[x]) w:=by
 have h1:Tryz.prog.funcs[42]? =some Tryz.f42:=Tryz.func42;simp[invoke,callFunc,Sem.run_bind,run_program,Result.andThen_ok,h1];rw[z0z (z9z kR),z0z (by intro h;cases h)]
def tt (Q:Exit->Act->World->Prop) (a:Act) (w:World) (x:Value) (hs:7<=a.tmps.size) (hx:a.tmps[2]? =some x) (h:Q .normal (deferred a 3 42 x) w){p1 p2:String}{e1 e2:Array Edge}{i t1 t2:Nat}:
  (Code.region i #[⟨some 3,.makeFunc (.func 42) #[] #[.tmp 2],t1,p1,e1,none⟩,⟨none,.defer ⟨.value (.tmp 3),#[],#[]⟩,t2,p2,e2,none⟩] false).wpIn Fence.wide 0 Tryz.prog Q a w:=by
 refine wpIn_region_list ?_;simp only[wpListIn,Region.wanted,Dl];refine⟨fun _ _=>trivial,?_⟩;have k1:(Oper.semAt Fence.wide.round a.eval ⟨some 3,.makeFunc (.func 42) #[] #[.tmp 2],t1,p1,e1,none⟩).run Tryz.prog w= .ok (.value (.func (.func 42) #[] #[x])) w:=by
  simp[Fence.wide,Oper.semAt_none,execOp,Instr.makeFunc,Act.eval,hx]
 rw[k1];show Oper.wpIn _ _ _ _ _ _ _ _;refine⟨fun _ _=>trivial,?_⟩;have k2:(Oper.semAt Fence.wide.round (a.put (some 3) (.func (.func 42) #[] #[x])).eval ⟨none,.defer ⟨.value (.tmp 3),#[],#[]⟩,t2,p2,e2,none⟩).run Tryz.prog w= .ok (.defer { target:= .fn (.func 42) #[x],args:=#[] }) w:=by
  have hx3:(a.put (some 3) (.func (.func 42) #[] #[x])).tmps[3]? =some (.func (.func 42) #[] #[x]):=by
   show(a.tmps.setIfInBounds 3 _)[3]? =_;rw[Array.getElem?_setIfInBounds,z1z rfl,z1z om]
  simp[Fence.wide,Oper.semAt_none,execOp,Act.eval,hx3,resolve,Deferred.ofValue]
 rw[k2];exact h
def Zu (x:Value) (w:World):CallsDIn Fence.wide 0 Tryz.prog 42 #[x] .returning w fun e u' w'=>(∃ v,e= .returned v)/\u'= .returning/\w'=w:=by
 refine callsDIn_of_wpSIn Tryz.func42 rfl trivial fun c₀ cs hu=>?_;apply wpSIn_seq;apply wpSIn_region;simp[wpOpsSIn,go_sem,recoverD,hu,Tryz.ntmps42,Exit.thenS];apply wpSIn_seq;apply wpSIn_region;have e1:Tryz.prog.underlying 20=some (.interface #[]):=Tryz.underlying20;have e3:∀ w:World,(Op.equalIn Op.maxDepth 20 .nilIface .nilIface).run Tryz.prog w= .ok true w:=fun w=>FI _ (show K9 Tryz.prog (Op.equalIn Op.maxDepth 20 .nilIface .nilIface)=some true by kernel_rfl) w;simp[wpOpsSIn,go_sem,recoverD,hu,Tryz.ntmps42,Exit.thenS,eqGuard,binOp,Op.equal,e1,e3];refine wpSIn_cond (t:=false) (by simp[Act.eval,Array.replicate]) ?_;refine wpSIn_of_wpIn rfl (wpIn_skip ?_);simp[bodyPostS,results,go_sem,hu];cases c₀;cases hu;rfl
section
variable {P:Program}{n:Nat}{Q:Exit->Act->List Frame->World->Prop}{a:Act}{cs:List Frame}{w w':World}{ops:Array Oper}{i:Nat}{C8:List Nat}{o:Oper}
def opS (ho:ops[i]? =some o) (hg:o.guard=none) (h:(execOp a.eval o).run P w= .ok (.value v) w') (k:wpOpsSIn Fence.wide n P ops Q C8 (a.put o.dst v) cs w'):wpOpsSIn Fence.wide n P ops Q (i::C8) a cs w:=by
 simp only[wpOpsSIn,ho,Region.wanted,hg,Dl,h];exact⟨fun _ _=>trivial,k⟩
def AZ8 (ho:ops[i]? =some o) (hg:o.guard=none) (h:(execOp a.eval o).run P w= .ok .skip w') (k:wpOpsSIn Fence.wide n P ops Q C8 (a.put o.dst undef) cs w'):wpOpsSIn Fence.wide n P ops Q (i::C8) a cs w:=by
 simp only[wpOpsSIn,ho,Region.wanted,hg,Dl,h];exact⟨fun _ _=>trivial,k⟩
def Pt {t:TypeId}{y:Operand}(ho:o.op= .store t x y)(hx:e x=p) (hy:e y=v) (h:(Instr.storeAt t p v).run P w= .ok () w'):(execOp e o).run P w= .ok .skip w':=by
 simp only[execOp,ho,hx,hy,Sem.run_bind,h];rfl
def iV {t:TypeId}(ho:o.op= .load t x)(hx:e x=p) (h:(Instr.loadAt t p).run P w= .ok u w'):(execOp e o).run P w= .ok (.value u) w':=by
 simp only[execOp,ho,hx,Sem.run_bind,h];rfl
def Zv {t:TypeId}(ho:o.op= .alloc t)(h:(Instr.alloc t true (.tuple #[])).run P w= .ok u w'):(execOp e o).run P w= .ok (.value u) w':=by
 simp only[execOp,ho,Sem.run_bind,h];rfl
end
def We (x v:Value) (w w':World) (h:NO Tryz.prog 71 x v w w'):CallsDIn Fence.wide 0 Tryz.prog 42 #[x] (.panicking [{ v:= .iface 71 v,recovered:=false }]) w fun e u' w''=>(∃ v,e= .returned v)/\settle u'= .returning/\w''=w':=by
 obtain⟨w1,w2,u,h1,h2,h3,h4⟩:=h;refine callsDIn_of_wpSIn Tryz.func42 rfl trivial fun c₀ cs hu=>?_;apply wpSIn_seq;apply wpSIn_region;simp[wpOpsSIn,go_sem,recoverD,hu,Tryz.ntmps42,Exit.thenS];apply wpSIn_seq;apply wpSIn_region;have e1:Tryz.prog.underlying 20=some (.interface #[]):=Tryz.underlying20;have e3:∀ w:World,(Op.equalIn Op.maxDepth 20 (.iface 71 v) .nilIface).run Tryz.prog w= .ok false w:=fun w=>FI _ (show K9 Tryz.prog (Op.equalIn Op.maxDepth 20 (.iface 71 v) .nilIface)=some false by kernel_rfl) w;simp[wpOpsSIn,go_sem,recoverD,hu,Tryz.ntmps42,Exit.thenS,eqGuard,binOp,Op.equal,e1,e3];refine wpSIn_cond (t:=true) (by simp[Act.eval,Array.replicate]) ?_;simp only[Dl];apply wpSIn_seq;apply wpSIn_region;show wpOpsSIn _ _ _ _ _ [0,1,2,3,4,5,6,7] _ _ _;refine opS rfl rfl (by simp[go_sem];exact⟨rfl,rfl⟩) ?_;refine opS rfl rfl (by simp[go_sem,Instr.typeAssert];exact⟨rfl,rfl⟩) ?_;refine opS rfl rfl (by simp[go_sem];exact⟨rfl,rfl⟩) ?_;refine opS rfl rfl (by simp[go_sem];exact⟨rfl,rfl⟩) ?_;refine opS rfl rfl (by simp[go_sem];exact⟨rfl,rfl⟩) ?_;refine opS rfl rfl (Zv rfl h1) ?_;refine AZ8 rfl rfl (Pt rfl (by simp[go_sem]) (by simp[go_sem]) h2) ?_;refine opS rfl rfl (by simp[go_sem];exact⟨rfl,rfl⟩) ?_;apply wpSIn_seq;apply wpSIn_seq;apply wpSIn_region;show wpOpsSIn _ _ _ _ _ [0,1] _ _ _;refine opS rfl rfl (by simp[go_sem];exact⟨rfl,rfl⟩) ?_;refine opS rfl rfl (by simp[go_sem];first|rfl|exact⟨rfl,rfl⟩) ?_;refine wpSIn_cond (t:=false) (by simp[go_sem]) ?_;refine wpSIn_of_wpIn rfl (wpIn_skip ?_);apply wpSIn_region;show wpOpsSIn _ _ _ _ _ [0,1] _ _ _;refine opS rfl rfl (iV rfl (by simp[go_sem]) h3) ?_;refine AZ8 rfl rfl (Pt rfl (by simp[go_sem]) (by simp[go_sem]) h4) ?_;show bodyPostS _ _ _ _ _ .normal _ _ _;simp[bodyPostS,results,go_sem,hu];cases c₀;cases hu;rfl
noncomputable def parts:Code×Code×Code×Code:=match Tryz.f22.body with
 |some (.seq a (.seq b (.seq c (.seq d .ret))))=>(a,b,c,d)
 |_=>(.skip,.skip,.skip,.skip)
noncomputable def OZ:nC:=nD Tryz.prog parts.1 parts.2.2.1 parts.2.2.2 3 2 71 71 [.cell 2 71]
def Zw {A8:Env}{G:Nat}(hG:codeOk Tryz.prog 7 G parts.1=true/\codeOk Tryz.prog 7 G parts.2.2.1=true/\codeOk Tryz.prog 7 G parts.2.2.2=true){run:RunT}(hE:PJ Tryz.prog A8 G run){vs:List Value}{Z:St}{r:CR}(h:OZ.f run vs Z=some r):
  Adv Z r.Z/\∀ O w vs' N,Rel A8 O Z w->Ce O Z.n N->r.Z.n<=N->Bo O G->G0 O vs vs'->Bp Tryz.prog A8 O 22 vs' Z w r :=
 Zx (c1:=parts.2.1) (k:=42) Tryz.func22 kR rfl (fun Q a w x h1 h2 h3=>tt Q a w x h1 h2 h3) AZ7 Zu We hG.1 hG.2.1 hG.2.2 hE h
end
end Go.Proofs.T
namespace Go.Proofs.T
open Go Go.Ab Go.RowKit
section
variable {vs:List Value}{Z:St}{r:CR}
noncomputable def ckF (vs:List Value) (Z:St):Option CR:=match vs with
 | [.pointer (some ⟨b,0,none⟩)]=>ob (Z.typ b) fun t=>bb (Nat.beq t 124) (ob (Z.read b 0 2) fun cs=>(match cs with
   | [.pointer none,_]=>ob (Z.write b 0 [.pointer (some ⟨b,0,none⟩)]) fun Z=>some ⟨false,.tuple #[],Z⟩
   | [.pointer (some ⟨c,0,none⟩),_]=>bb (Nat.beq c b) (some ⟨false,.tuple #[],Z⟩)
   |_=>none))
 |_=>none
noncomputable def sN (v:Value):Option UInt8:=match v with
 | .int .u8 (.ofNat n)=>bb (Nat.blt n 256) (some (UInt8.ofNat n))
 |_=>none
noncomputable def cQ (l:List Value):Option (List UInt8) :=
 List.rec (motive:=fun _=>Option (List UInt8)) (some []) (fun v _ ih=>ob (sN v) fun b=>ob ih fun bs=>some (b::bs)) l
noncomputable def AQ5 (vs:List Value) (Z:St):Option CR:=match vs with
 | [.pointer (some ⟨b,0,none⟩)]=>ob (Z.typ b) fun t=>bb (Nat.beq t 124) (ob (Z.read b 0 2) fun cs=>(match cs with
   | [_,.slice (some ⟨g,0,_⟩) (n+1) k]=>ob (Z.typ g) fun t=>bb (Nat.beq t 5) (bb (Nat.ble (n+1) k) (bb (Nat.ble n room) (ob (Z.read g 0 (n+1)) fun cs=>ob (cQ cs) fun l=>ob (Z.kill g) fun Z=>some ⟨false,.string ⟨l.toArray⟩,Z⟩)))
   |_=>none))
 |_=>none
section
variable {A8:Env}{G:Nat}
def Ng {O:Ab.Place}{w:World}{q:Bk}{cells:List Value}{v1 v2:Value}(hR:Row A8 O w q cells) (ho:q.o=0) (hs:sub cells 0 2=some [v1,v2]):
  2<=q.m/\(∃ u,w.cell? ⟨q.c,0,none⟩=some u/\H4 O v1 u)/\∃ u,w.cell? ⟨q.c,1,none⟩=some u/\H4 O v2 u:=by
 obtain⟨arr,e,lo,hi,a1,a0,a2,a3,a4,a5⟩:=hR;obtain⟨s1,s2⟩:=sub_eq hs;have g0:cells[0]? =some v1:=by
  have:=congrArg (fun l:List Value=>l[0]?) s2
  simpa using this.symm
 have g1:cells[1]? =some v2:=by
  have:=congrArg (fun l:List Value=>l[1]?) s2
  simpa using this.symm
 obtain⟨u1,b1,b2⟩:=a5 0 v1 g0;obtain⟨u2,b3,b4⟩:=a5 1 v2 g1;rw[ho]at b1 b3 a2;exact⟨om,⟨u1,by rw[IM a1];exact b1,b2⟩,u2,by rw[IM a1];exact b3,b4⟩
def AQ6 (h:ckF vs Z=some r):Adv Z r.Z/\∀ O w vs' N,Rel A8 O Z w->Ce O Z.n N->r.Z.n<=N->Bo O G->G0 O vs vs'->Bp Tryz.prog A8 O 109 vs' Z w r:=by
 unfold ckF at h;split at h
 ·rename_i b;obtain⟨t,g1,h1⟩:=A5 h;clear h;obtain⟨g2,h2⟩:=H3 h1;clear h1;obtain rfl:=AH g2;obtain⟨cs,g3,h⟩:=A5 h2;clear h2;obtain⟨B,hB,En⟩:=V8 g3;split at h
  ·rename_i v2;obtain⟨Z',g4,h⟩:=A5 h;cases h;refine⟨.write g4,fun O w vs' N hR hF hN hG hv=>?_⟩;cases hv with
   |cons hp hv=>
   cases hv;cases hp with
   |H5 hs=>simp[H5]at hs
   | @ptr _ _ q hq=>
   obtain⟨ho,arr,f,ha⟩:=hR.typ hq ⟨B,(j7 hB).1⟩ g1;have HD:=hR.row b q B hq hB;obtain⟨h2,⟨u,hu,hur⟩,_⟩:=Ng HD ho En;have hun:u= .pointer none:=by cases hur with|H5 hs=>rfl
   subst hun;obtain⟨w1,w2,w3⟩:=hR.write hq g4 (vs':=[.pointer (some ⟨q.c,0,none⟩)]) (.cons (by have:=H4.ptr (off:=0) hq;rwa [ho]at this) .nil) (by simp[J9]);obtain⟨Af1,e,lo,hi,a1,a0,a2,a3,a4,a5⟩:=HD;rw[ha]at a1;cases a1;obtain⟨B',cs',hr1,BA0,_⟩:=JT g4;rw[hB]at hr1;cases hr1;have hfz:=a3 (hR.own b q B hq (j7 hB).1 BA0);have hfr:w.frozen? ⟨q.c,0,none⟩=false:=by
    simp only[World.frozen?,ha];rcases hfz with hh|hh
    ·simp;omega
    ·simp;omega
   have he:LG w q.c (q.o+0) [.pointer (some ⟨q.c,0,none⟩)]=w.setCell ⟨q.c,0,none⟩ (.pointer (some ⟨q.c,0,none⟩)):=by rw[ho];rfl
   rw[he]at w2 w3;have hc:=YV q.c q.m w hu (by simp[World.shape?,ha,a0]) h2 hfr;rw[show q.o+0=0 from by omega];exact KG Tryz.func109 kR rfl hc w2 w3 (.tuple .nil)
  ·rename_i c v2;obtain⟨g4,h⟩:=H3 h;cases h;obtain rfl:=AH g4;refine⟨.refl _,fun O w vs' N hR hF hN hG hv=>?_⟩;cases hv with
   |cons hp hv=>
   cases hv;cases hp with
   |H5 hs=>simp[H5]at hs
   | @ptr _ _ q hq=>
   obtain⟨ho,arr,f,ha⟩:=hR.typ hq ⟨B,(j7 hB).1⟩ g1;obtain⟨h2,⟨u,hu,hur⟩,_⟩:=Ng (hR.row _ q B hq hB) ho En;cases hur with
   |H5 hs=>simp[H5]at hs
   | @ptr _ _ q' hq'=>
   rw[hq]at hq';cases hq';rw[show q.o+0=0 from by omega]at hu ⊢;exact KG Tryz.func109 kR rfl (cA q.c w hu) hR (.refl _ _ _) (.tuple .nil)
  ·cases h
 ·cases h
def ku:∀ {cs:List Value}{l:List UInt8},cQ cs=some l->cs.length=l.length/\∀ (j:Nat) (x:UInt8),l[j]? =some x->cs[j]? =some (Value.int .u8 x.toNat):=by
 intro cs;induction cs with
 |nil=>intro l h;cases h;exact⟨rfl,fun j x h=>by simp at h⟩
 | cons v cs ih=>
   intro l h;obtain⟨b,h1,h⟩:=A5 (show ob (sN v) (fun b=>ob (cQ cs) fun bs=>some (b::bs))=some l from h);obtain⟨bs,h2,h⟩:=A5 h;cases h;obtain⟨e1,e2⟩:=ih h2;refine⟨by simp[e1],fun j x hj=>?_⟩;cases j with
   | zero=>
     simp at hj;subst hj;unfold sN at h1;split at h1
     ·rename_i n;obtain⟨h3,h4⟩:=H3 h1;cases h4;rw[DC]at h3;show some (Value.int .u8 (n:Nat))=some (Value.int .u8 ((UInt8.ofNat n).toNat:Nat));rw[show(UInt8.ofNat n).toNat=n from by simp[UInt8.toNat_ofNat'];omega]
     ·cases h1
   |succ j=>simpa using e2 j x (by simpa using hj)
def xk (h:AQ5 vs Z=some r):Adv Z r.Z/\∀ O w vs' N,Rel A8 O Z w->Ce O Z.n N->r.Z.n<=N->Bo O G->G0 O vs vs'->Bp Tryz.prog A8 O 58 vs' Z w r:=by
 unfold AQ5 at h;split at h
 ·rename_i b;obtain⟨t,g1,h1⟩:=A5 h;clear h;obtain⟨g2,h2⟩:=H3 h1;clear h1;obtain rfl:=AH g2;obtain⟨cs,g3,h⟩:=A5 h2;clear h2;obtain⟨B,hB,En⟩:=V8 g3;split at h
  ·rename_i v1 g sp n k;obtain⟨t,g4,h1⟩:=A5 h;clear h;obtain⟨g5,h2⟩:=H3 h1;clear h1;obtain rfl:=AH g5;obtain⟨g6,h3⟩:=H3 h2;obtain⟨g7,h4⟩:=H3 h3;obtain⟨cs,g8,h5⟩:=A5 h4;obtain⟨l,g9,h6⟩:=A5 h5;obtain⟨Z',g10,h7⟩:=A5 h6;cases h7;clear h2 h3 h4 h5 h6;have e6:=JO g6;have e7:=JO g7;unfold room at e7;obtain⟨Bg,hBg,Aj4⟩:=V8 g8;refine⟨.kill g10,fun O w vs' N hR hF hN hG hv=>?_⟩;cases hv with
   |cons hp hv=>
   cases hv;cases hp with
   |H5 hs=>simp[H5]at hs
   | @ptr _ _ q hq=>
   obtain⟨ho,arr,f,ha⟩:=hR.typ hq ⟨B,(j7 hB).1⟩ g1;obtain⟨h2,_,u,hu,hur⟩:=Ng (hR.row b q B hq hB) ho En;have fin:∀ (qg:Bk) (k':Nat),O g=some qg->u= .slice (some ⟨qg.c,qg.o,none⟩) (n+1) k'->n+1<=k'->Bp Tryz.prog A8 O 58 [.pointer (some ⟨q.c,q.o+0,none⟩)] Z w ⟨false,.string ⟨l.toArray⟩,Z'⟩:=by
    intro qg k' hqg hue hk;subst hue;obtain⟨hog,BA1,fg,hag⟩:=hR.typ hqg ⟨Bg,(j7 hBg).1⟩ g4;obtain⟨Af1,e,lo,hi,a1,a0,a2,a3,a4,a5⟩:=hR.row g qg Bg hqg hBg;rw[hag]at a1;cases a1;obtain⟨s1,s2⟩:=sub_eq Aj4;have hlen:cs.length=n+1:=by rw[s2];simp;omega
    obtain⟨u1,u2⟩:=ku g9;have hll:l.length=n+1:=om;have Xu:∀ j x,l[j]? =some x->w.cell? ((⟨qg.c,0,none⟩:Addr).add j)=some (.int .u8 x.toNat):=by
     intro j x hj;have b1:=u2 j x hj;have hjn:j<n+1:=by have:=(List.getElem?_eq_some_iff.1 hj).1;omega
     rw[s2,List.getElem?_take_of_lt hjn,List.getElem?_drop,Gy]at b1;obtain⟨v',c1,c2⟩:=a5 j _ b1;rw[hog,Gy]at c1;rw[addr_add,IM hag,Gy,c1];cases c2 with
     |H5 _=>rfl
    have hc:=cB q.c qg.c k' BA1.size l w (by rw[hll,<- hog];exact hu) om (by simp[World.shape?,hag]) (by intro he;rw[he]at hll;simp at hll) om om Xu;have hfr:∀ c,c≠qg.c->(w.drew.freeze ⟨qg.c,0,none⟩ l.length).heap[c]? =w.heap[c]? :=by
     intro c hne;unfold World.freeze;split
     ·rfl
     ·show(w.heap.modify qg.c _)[c]? =_;rw[Array.getElem?_modify,z0z (fun h=>hne h.symm)]
    obtain⟨w2,w3⟩:=hR.AK1 hqg g10 (w':=w.drew.freeze ⟨qg.c,0,none⟩ l.length) (by unfold World.freeze;split<;>simp) hfr (by unfold World.freeze;split<;>exact⟨rfl,rfl,rfl⟩);rw[show q.o+0=0 from by omega];exact KG Tryz.func58 kR rfl hc w2 w3 (.H5 rfl)
   cases hur with
   |slice hq'=>exact fin _ _ hq' rfl e6
   |grow hq' hk' hm'=>exact fin _ _ hq' rfl (X0 e6 hk')
   |H5 hs=>simp[H5]at hs
  ·cases h
 ·cases h
end
end
end Go.Proofs.T
namespace Go.Proofs.T
open Go Go.Ab Go.RowKit
def xm {A8:Env}{G:Nat}{vs:List Value}{Z:St}{r:CR}(h:ep vs Z=some r):Adv Z r.Z/\∀ O w vs' N,Rel A8 O Z w->Ce O Z.n N->r.Z.n<=N->Bo O G->G0 O vs vs'->Bp Tryz.prog A8 O 56 vs' Z w r :=
 pO (g:=56) Tryz.func56 kR rfl
  (fun bk o c xs sep w h1 h2 h3 h4 h5=>Any.strings_Join Tryz.dJ Tryz.zK bk o c xs sep w h1 h2 h3 h4 h5)
  (fun a c sep w=>Any.strings_Join_none Tryz.dJ Tryz.zK a c sep w) h
noncomputable def CS:EW:=fun g=>if g=22 then some OZ else if g=56 then some (.plain ep)else if g=58 then some (.plain AQ5)else if g=109 then some (.plain ckF)else none
def Ad8 {A8:Env}{G:Nat}(hG:codeOk Tryz.prog 7 G parts.1=true/\codeOk Tryz.prog 7 G parts.2.2.1=true/\codeOk Tryz.prog 7 G parts.2.2.2=true):JU Tryz.prog A8 G CS:=by
 intro g s hs run hE vs Z r h;unfold CS at hs;split at hs
 ·rename_i hg;subst hg;cases hs;exact Zw hG hE h
 ·split at hs
  ·rename_i hg;subst hg;cases hs;exact xm h
  ·split at hs
   ·rename_i hg;subst hg;cases hs;exact xk h
   ·split at hs
    ·rename_i hg;subst hg;cases hs;exact AQ6 h
    ·cases hs
end Go.Proofs.T
namespace Go.Proofs.T
open Go Go.Ab Go.RowKit
section
variable {vs:List Value}{Z:St}{r:CR}
noncomputable def Bh (c:UInt8) (l:List UInt8):Int:=List.rec (motive:=fun _=>Int) (-1) (fun b _ ih=>bi (Nat.beq b.toNat c.toNat) 0 (bi (ilt ih 0) (-1) (ih+1))) l
noncomputable def Fi (c:UInt8) (l:List UInt8):Nat:=List.rec (motive:=fun _=>Nat) 0 (fun b _ ih=>bi (Nat.beq b.toNat c.toNat) (ih+1) ih) l
def Kw (a b:UInt8):Nat.beq a.toNat b.toNat=(a==b):=by
 rw[z7z];constructor
 ·intro h;rw[WL (AH h)];simp
 ·intro h;rw[eq_of_beq h];exact Nat.beq_refl _
def vy (c:UInt8):∀ l:List UInt8,Bh c l=Lib.indexByte l c:=by
 intro l;induction l with
 |nil=>rfl
 | cons b l ih=>
   show bi (Nat.beq b.toNat c.toNat) 0 (bi (ilt (Bh c l) 0) (-1) (Bh c l+1))=_;rw[ih,Kw];rw[show Lib.indexByte (b::l) c=if (b==c)=true then 0 else if (Lib.indexByte l c== -1)=true then -1 else Lib.indexByte l c+1 from rfl];have hge:=Lib.indexByte_ge l c;generalize Lib.indexByte l c=z at hge ⊢;cases hb:(b==c)with
   |true=>rfl
   | false=>
     rw[BV,z0z (by simp),JJ];by_cases h:z= -1
     ·subst h;rfl
     ·rw[dF,BV,z0z (by simpa using h)]
def vz (c:UInt8):∀ l:List UInt8,Fi c l=Lib.countByte l c:=by
 intro l;induction l with
 |nil=>rfl
 | cons b l ih=>
   show bi (Nat.beq b.toNat c.toNat) (Fi c l+1) (Fi c l)=_;rw[ih,Kw];unfold Lib.countByte;rw[fE];cases hb:(b==c)<;>simp
def ZQ (n:Int):UInt8:=n.toNat.toUInt8
noncomputable def Ad6 (vs:List Value) (Z:St):Option CR:=match vs with
 | [.string s,.int .u8 n]=>some ⟨false,.int .i64 (Bh (ZQ n) s.data.toList),Z⟩
 |_=>none
noncomputable def Ad7 (vs:List Value) (Z:St):Option CR:=match vs with
 | [.string s,.int .u8 n]=>some ⟨false,.int .i64 (Fi (ZQ n) s.data.toList:Nat),Z⟩
 |_=>none
section
variable {A8:Env}{G:Nat}
def pV {g:Nat}{fn:Func}(hf:Tryz.prog.funcs[g]? =some fn) (hn:(fn.name== "runtime.NumGoroutine")=false){F:ByteArray->Int->Int}
  (HB:∀ s n w,(callFunc g #[.string s,.int .u8 n]).run Tryz.prog w= .ok (.value (.int .i64 (F s n))) w) {vs:List Value}{Z:St}{r:CR}
  (h:(match vs with|[.string s,.int .u8 n]=>some ⟨false,.int .i64 (F s n),Z⟩|_=>none)=some r):Adv Z r.Z/\∀ O w vs' N,Rel A8 O Z w->Ce O Z.n N->r.Z.n<=N->Bo O G->G0 O vs vs'->Bp Tryz.prog A8 O g vs' Z w r:=by
 split at h
 ·rename_i s n;cases h;refine⟨.refl _,fun O w vs' N hR hF hN hG hv=>?_⟩;cases hv with
  |cons h1 hv=>
  cases hv with
  |cons h2 hv=>
  cases hv;cases h1;cases h2;exact⟨fn,hf,hn,.inr ⟨_,HB s n w,rfl,rfl,.H5 rfl⟩⟩
 ·cases h
def wA (h:Ad6 vs Z=some r):Adv Z r.Z/\∀ O w vs' N,Rel A8 O Z w->Ce O Z.n N->r.Z.n<=N->Bo O G->G0 O vs vs'->Bp Tryz.prog A8 O 215 vs' Z w r :=
 pV (F:=fun s n=>Bh (ZQ n) s.data.toList) Tryz.func215 kR (fun s n w=>by
  rw[run_callFunc_extern Tryz.func215 kR kR kR (e:=Extern.BytealgIndexByte.indexByte) kR,Lib.run_indexByteString,vy];rfl) h
def wB (h:Ad7 vs Z=some r):Adv Z r.Z/\∀ O w vs' N,Rel A8 O Z w->Ce O Z.n N->r.Z.n<=N->Bo O G->G0 O vs vs'->Bp Tryz.prog A8 O 181 vs' Z w r :=
 pV (F:=fun s n=>(Fi (ZQ n) s.data.toList:Nat)) Tryz.func181 kR (fun s n w=>by
  rw[run_callFunc_extern Tryz.func181 kR kR kR (e:=Extern.BytealgCount.count) kR,Lib.run_countString,vz];rfl) h
end
noncomputable def CS1:EW:=fun g=>if g=215 then some (.plain Ad6)else if g=181 then some (.plain Ad7)else CS g
def zg {A8:Env}{G:Nat}(hG:codeOk Tryz.prog 7 G parts.1=true/\codeOk Tryz.prog 7 G parts.2.2.1=true/\codeOk Tryz.prog 7 G parts.2.2.2=true):JU Tryz.prog A8 G CS1:=by
 intro g s hs run hE vs Z r h;unfold CS1 at hs;split at hs
 ·rename_i hg;subst hg;cases hs;exact wA h
 ·split at hs
  ·rename_i hg;subst hg;cases hs;exact wB h
  ·exact Ad8 hG g s hs run hE vs Z r h
end
end Go.Proofs.T
