/- The tie of the row of PlayNames: what it lists is what the program's text lays. No condition. -/
import Derived.Test.YtdbpcmddocbfiaaGreatDoorTieB
import Derived.Test.YtdbpcmddocbfiaaGreatDoorTieC
import Derived.Test.YtdbpcmddocbfiaaGreatDoorTieD
import Derived.Test.YtdbpcmddocbfiaaGreatDoorTieE
import Derived.Test.YtdbpcmddocbfiaaGreatDoorTieF
namespace Go.Proofs.YtdbpcmddocbfiaaGreatDoor
open Go

theorem tie : Tryz.prog.laidByTextLater tlaid [.data, .data, .sentinel, .sentinel, .data, .data, .data, .data, .data] true :=
  Program.laidByTextLater_of_run 738 400 8 twWord twNotWord twRoot twKinds twVars twNamed twDone
    (fun os tape => by rw [twRead os tape]; rfl)
    (fun os tape => by
      have h := twRows os tape
      rw [twRead os tape] at h ⊢
      rw [Option.map_some, Option.some.injEq] at h ⊢
      rw [twApart, h]; rfl)
    twPlain
theorem rowTie : Rows.playNamesRow.laidByTextAt .later Tryz.pinned [.pinned, .data, .data, .sentinel, .sentinel, .data, .data, .data, .data, .data] true :=
  OpenClaim.laidByTextAt_pinned rfl rfl tie rfl rfl rfl rfl (fun y hy _e => by
    simp only [Rows.playNamesRow, List.zip_cons_cons, List.zip_nil_right, List.mem_cons, List.mem_nil_iff, or_false] at hy
    rcases hy with rfl | rfl | rfl | rfl | rfl | rfl | rfl | rfl | rfl | rfl
    · exact ⟨twPin, by kernel_rfl⟩
    · cases _e
    · cases _e
    · cases _e
    · cases _e
    · cases _e
    · cases _e
    · cases _e
    · cases _e
    · cases _e) twFits
end Go.Proofs.YtdbpcmddocbfiaaGreatDoor
