/- The checks of the examples of layer 2 give true. -/
import Derived.Test.YtbcanmagihejhaaGreatDoorTA
set_option linter.unusedSimpArgs false
set_option linter.unusedVariables false
namespace Go.Proofs.T
open Go Go.Ab
set_option maxRecDepth 1000000
theorem okParts:codeOk Tryz.prog 7 8 parts.1=true/\codeOk Tryz.prog 7 8 parts.2.2.1=true/\codeOk Tryz.prog 7 8 parts.2.2.2=true:=⟨by kernel_rfl,by kernel_rfl,by kernel_rfl⟩
def okTrue:Option CR->Bool
 | some ⟨false,.bool b,_⟩=>b
 | _=>false
def pows:List Value:=[.int .u64 1,.int .u64 10,.int .u64 100,.int .u64 1000,.int .u64 10000,.int .u64 100000,.int .u64 1000000,.int .u64 10000000,.int .u64 100000000,.int .u64 1000000000,.int .u64 10000000000,.int .u64 100000000000,.int .u64 1000000000000,.int .u64 10000000000000,.int .u64 100000000000000,.int .u64 1000000000000000,.int .u64 10000000000000000,.int .u64 100000000000000000,.int .u64 1000000000000000000,.int .u64 10000000000000000000]
noncomputable def start:St:=⟨Tr.nil.set 1 ⟨pows,true,false,0,.row none⟩,8⟩
theorem san:okTrue (callF Tryz.prog CS1 (exec Tryz.prog CS1 100000) (.fn 12) [] start)=true:=by kernel_rfl
end Go.Proofs.T
