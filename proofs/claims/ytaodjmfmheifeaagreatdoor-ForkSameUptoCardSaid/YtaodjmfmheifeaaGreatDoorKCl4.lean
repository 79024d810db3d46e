/- What function 4 comes to: the closed facts that rest on it. -/
import Derived.Test.YtaodjmfmheifeaaGreatDoorKClo4
import Derived.Test.YtaodjmfmheifeaaGreatDoorKCloN
set_option linter.unusedSimpArgs false
set_option linter.unusedVariables false
namespace Go.Proofs.YtaodjmfmheifeaaGreatDoor.doors
open Go
set_option maxRecDepth 1000000
theorem closure4 : Tryz.prog.closure 4 = clo4 := closure_of cloB4 cloN
theorem inPlace4 : Tryz.prog.inPlace 4 = ["internal/bytealg.IndexByteString", "internal/bytealg.IndexString", "internal/bytealg.CountString", "internal/abi.NoEscape", "internal/bytealg.MakeNoZero", "math/bits.Add64", "math/bits.Sub64", "slices.overlaps[*probity/record.offer]"] := by
  unfold Program.inPlace
  rw [closure4]
  kernel_rfl
theorem unfollowed4 : Tryz.prog.unfollowed 4 = true := by
  unfold Program.unfollowed
  rw [closure4]
  kernel_rfl
theorem recurses4 : Tryz.prog.recurses 4 = true := by
  unfold Program.recurses
  rw [unfollowed4]; rfl
theorem named4 : Tryz.prog.varsNamed 4 = ["strconv.ErrSyntax", "strconv.ErrRange", "internal/strconv.uint64pow10", "math/bits.deBruijn32tab", "math/bits.deBruijn64tab", "internal/bytealg.MaxLen", "unicode/utf8.first", "unicode/utf8.acceptRanges", "math/bits.divideError", "math/bits.overflowError"] := by
  unfold Program.varsNamed
  rw [closure4]
  kernel_rfl
end Go.Proofs.YtaodjmfmheifeaaGreatDoor.doors
