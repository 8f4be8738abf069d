/- A closed fact of the tie: behind the run that lays the variables, the places of the reading are whole rows. No condition. -/
import Derived.Test.YtdbpcmddocbfiaaGreatDoorTieA
namespace Go.Proofs.YtdbpcmddocbfiaaGreatDoor
open Go

theorem twRows : ∀ os tape, (DataW.laidRun Tryz.prog (varsWorld Tryz.prog 400 738 os tape).memory 8 (tlaid.map (·.1))).map (fun x => laidRowsB Tryz.prog (varsWorld Tryz.prog 400 738 os tape).memory x.2) = some true := fun _ _ => by kernel_rfl
end Go.Proofs.YtdbpcmddocbfiaaGreatDoor
