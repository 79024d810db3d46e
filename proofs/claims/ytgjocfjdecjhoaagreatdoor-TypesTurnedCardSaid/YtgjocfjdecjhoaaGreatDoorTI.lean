/- Ah6 without Aj9 B9 of digits: all numbers of Iu lines are short. -/
import Derived.Test.YtgjocfjdecjhoaaGreatDoorTH
set_option linter.unusedSimpArgs false
set_option linter.unusedVariables false
set_option linter.defProp false
set_option maxHeartbeats 32000000
set_option maxRecDepth 100000
namespace Go.Proofs.T
open Go Go.Ab
def EM:By->Nat->Bool
 | [],_=>true
 |b::l,c=>bif on O6 b then Nat.ble (c+1) 18&&EM l (c+1)else EM l 0
def HR {b:UInt8}{l:By}{c:Nat}:EM (b::l) c=bif on O6 b then Nat.ble (c+1) 18&&EM l (c+1)else EM l 0:=rfl
end Go.Proofs.T
