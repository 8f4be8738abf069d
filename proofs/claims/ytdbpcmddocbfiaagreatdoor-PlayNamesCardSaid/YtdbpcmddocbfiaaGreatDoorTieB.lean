/- Two closed facts of the tie: the translation bears the root's word, and not the word of the other build. No condition. -/
import Derived.Test.YtdbpcmddocbfiaaGreatDoorTieA
namespace Go.Proofs.YtdbpcmddocbfiaaGreatDoor
open Go

theorem twNotWord : Tryz.prog.worded (varsWordLater !true) = false := by kernel_rfl
theorem twRoot : Tryz.prog.worded rootWordLater = true := by kernel_rfl
end Go.Proofs.YtdbpcmddocbfiaaGreatDoor
