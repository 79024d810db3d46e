/- What function 5 comes to: the closed facts that rest on it. -/
import Derived.Test.YtaodjmfmheifeaaGreatDoorKClo5
import Derived.Test.YtaodjmfmheifeaaGreatDoorKCloN
set_option linter.unusedSimpArgs false
set_option linter.unusedVariables false
namespace Go.Proofs.YtaodjmfmheifeaaGreatDoor.doors
open Go
set_option maxRecDepth 1000000
theorem closure5 : Tryz.prog.closure 5 = clo5 := closure_of cloB5 cloN
theorem inPlace5 : Tryz.prog.inPlace 5 = ["internal/bytealg.IndexByteString", "internal/bytealg.IndexString", "internal/bytealg.CountString", "internal/abi.NoEscape", "internal/bytealg.MakeNoZero", "math/bits.Add64", "math/bits.Sub64", "slices.overlaps[*probity/record.offer]"] := by
  unfold Program.inPlace
  rw [closure5]
  kernel_rfl
theorem unfollowed5 : Tryz.prog.unfollowed 5 = true := by
  unfold Program.unfollowed
  rw [closure5]
  kernel_rfl
theorem recurses5 : Tryz.prog.recurses 5 = true := by
  unfold Program.recurses
  rw [unfollowed5]; rfl
theorem named5 : Tryz.prog.varsNamed 5 = ["strconv.ErrSyntax", "strconv.ErrRange", "internal/strconv.uint64pow10", "math/bits.deBruijn32tab", "math/bits.deBruijn64tab", "internal/bytealg.MaxLen", "unicode/utf8.first", "unicode/utf8.acceptRanges", "math/bits.divideError", "math/bits.overflowError"] := by
  unfold Program.varsNamed
  rw [closure5]
  kernel_rfl
end Go.Proofs.YtaodjmfmheifeaaGreatDoor.doors
