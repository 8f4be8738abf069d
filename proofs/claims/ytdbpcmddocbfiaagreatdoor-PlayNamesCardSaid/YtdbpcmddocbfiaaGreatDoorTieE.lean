/- A closed fact of the tie: what the listed variables read as behind the run that lays them, and the places that the reading takes. No condition. -/
import Derived.Test.YtdbpcmddocbfiaaGreatDoorTieA
namespace Go.Proofs.YtdbpcmddocbfiaaGreatDoor
open Go

/-- The cells of a block, one place each. -/
def twCells (b n : Nat) : List MemPlace := (List.range n).map (fun i => .cell b i)
/-- The places that the reading takes. -/
def twPlaces : List MemPlace := twCells 9 32 ++ twCells 0 120 ++ twCells 3 1 ++ twCells 17 1 ++ twCells 4 1 ++ twCells 16 1 ++ twCells 2 20 ++ twCells 6 32 ++ twCells 7 64 ++ twCells 5 16 ++ twCells 10 16
theorem twRead : ∀ os tape, DataW.laidRun Tryz.prog (varsWorld Tryz.prog 400 738 os tape).memory 8 (tlaid.map (·.1)) = some (tlaid, twPlaces) := fun _ _ => by kernel_rfl
theorem twApart : decide twPlaces.Nodup = true := by decide +kernel
end Go.Proofs.YtdbpcmddocbfiaaGreatDoor
