/- Al0 with plain fields: name, OM, y8, V9, times. -/
import Derived.Test.YtgjocfjdecjhoaaGreatDoorTC
set_option linter.unusedSimpArgs false
set_option linter.unusedVariables false
set_option linter.defProp false
set_option maxHeartbeats 32000000
set_option maxRecDepth 100000
namespace Go.Proofs.T
open Go Go.Ab
section
variable {Z ZL:St}{bt bx:Nat}{T:Tn}{tv:Value}{D7:List Tok}{k:Nat}{tx:By}{HO:Nat}{v:Nat->Value}{fc vs:List Value}
end
section
variable {Z ZL:St}{bt bx:Nat}{T:Tn}{tv:Value}{D7:List Tok}{k:Nat}{tx:By}{HO:Nat}{v:Nat->Value}{fc vs:List Value}
end
section
variable {Z ZL:St}{bt bx:Nat}{T:Tn}{tv:Value}{D7:List Tok}{k:Nat}{tx:By}{HO:Nat}{v:Nat->Value}{fc vs:List Value}
def mY:By:=[103,114,97,100,101]
def mX:By:=[111,102,102,101,114]
def AC1:By:=[108,101,115,115]
end
section
variable {Z ZL:St}{bt bx:Nat}{T:Tn}{tv:Value}{D7:List Tok}{k:Nat}{tx:By}{HO:Nat}{v:Nat->Value}{fc vs:List Value}
def N9:By:=[112,114,105,99,101]
end
section
variable {Z:St}
end
section
variable {Z ZL:St}{bt bx:Nat}{T:Tn}{tv:Value}{D7:List Tok}{k:Nat}{tx:By}{HO:Nat}{v:Nat->Value}{fc vs:List Value}
end
section
variable {Z ZL:St}{bt bx:Nat}{T:Tn}{tv:Value}{D7:List Tok}{k:Nat}{tx:By}{HO:Nat}{v:Nat->Value}{fc vs:List Value}
end
end Go.Proofs.T
