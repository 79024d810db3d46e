/- What function 3 comes to: the closed facts that rest on it. -/
import Derived.Test.YtaodjmfmheifeaaGreatDoorKClo3
import Derived.Test.YtaodjmfmheifeaaGreatDoorKCloN
set_option linter.unusedSimpArgs false
set_option linter.unusedVariables false
namespace Go.Proofs.YtaodjmfmheifeaaGreatDoor.doors
open Go
set_option maxRecDepth 1000000
theorem closure3 : Tryz.prog.closure 3 = clo3 := closure_of cloB3 cloN
theorem inPlace3 : Tryz.prog.inPlace 3 = ["internal/bytealg.IndexByteString", "internal/bytealg.IndexString", "internal/bytealg.CountString", "internal/abi.NoEscape", "internal/bytealg.MakeNoZero", "math/bits.Add64", "math/bits.Sub64", "slices.overlaps[*probity/record.offer]"] := by
  unfold Program.inPlace
  rw [closure3]
  kernel_rfl
theorem unfollowed3 : Tryz.prog.unfollowed 3 = true := by
  unfold Program.unfollowed
  rw [closure3]
  kernel_rfl
theorem recurses3 : Tryz.prog.recurses 3 = true := by
  unfold Program.recurses
  rw [unfollowed3]; rfl
theorem named3 : Tryz.prog.varsNamed 3 = ["strconv.ErrSyntax", "strconv.ErrRange", "internal/strconv.uint64pow10", "math/bits.deBruijn32tab", "math/bits.deBruijn64tab", "internal/bytealg.MaxLen", "unicode/utf8.first", "unicode/utf8.acceptRanges", "math/bits.divideError", "math/bits.overflowError"] := by
  unfold Program.varsNamed
  rw [closure3]
  kernel_rfl
end Go.Proofs.YtaodjmfmheifeaaGreatDoor.doors
