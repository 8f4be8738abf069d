/- A closed fact of the tie: the run that lays the variables ends. No condition. -/
import Derived.Test.YtdbpcmddocbfiaaGreatDoorTieA
namespace Go.Proofs.YtdbpcmddocbfiaaGreatDoor
open Go

theorem twDone : ∀ os tape, varsDone Tryz.prog 400 738 os tape = true := fun _ _ => by kernel_rfl
end Go.Proofs.YtdbpcmddocbfiaaGreatDoor
