/- The OG of the examples of AO2 2 yK true. -/
import Derived.Test.YtgjocfjdecjhoaaGreatDoorITA
set_option linter.unusedSimpArgs false
set_option linter.unusedVariables false
set_option linter.defProp false
set_option maxHeartbeats 32000000
set_option maxRecDepth 100000
namespace Go.Proofs.T
open Go Go.Ab
def kH:codeOk Tryz.prog 7 10 parts.1=true/\codeOk Tryz.prog 7 10 parts.2.2.1=true/\codeOk Tryz.prog 7 10 parts.2.2.2=true:=⟨by kernel_rfl,by kernel_rfl,by kernel_rfl⟩
def gE:Option CR->Bool
 |some ⟨false,.bool b,_⟩=>b
 |_=>false
def AO:List Value:=[.int .u64 1,.int .u64 10,.int .u64 100,.int .u64 1000,.int .u64 10000,.int .u64 100000,.int .u64 1000000,.int .u64 10000000,.int .u64 100000000,.int .u64 1000000000,.int .u64 10000000000,.int .u64 100000000000,.int .u64 1000000000000,.int .u64 10000000000000,.int .u64 100000000000000,.int .u64 1000000000000000,.int .u64 10000000000000000,.int .u64 100000000000000000,.int .u64 1000000000000000000,.int .u64 10000000000000000000]
noncomputable def start:St:=⟨Tr.nil.set 0 ⟨AO,true,false,0,.row none⟩,10⟩
def san:gE (DY Tryz.prog CS1 (exec Tryz.prog CS1 100000) (.fn 8) [] start)=true:=kR
end Go.Proofs.T
