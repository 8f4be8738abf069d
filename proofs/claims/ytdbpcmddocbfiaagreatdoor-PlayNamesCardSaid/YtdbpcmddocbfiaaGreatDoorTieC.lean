/- A closed fact of the tie: the listed variables are laid in order, each by a region that fits its kind. No condition. -/
import Derived.Test.YtdbpcmddocbfiaaGreatDoorTieA
namespace Go.Proofs.YtdbpcmddocbfiaaGreatDoor
open Go

theorem twNamed : varsNamedLaterB Tryz.prog 738 tlaid = true := by kernel_rfl
end Go.Proofs.YtdbpcmddocbfiaaGreatDoor
