/- The closed facts that the row's claim asks of the program, together. No condition. -/
import Derived.Test.YtdbpcmddocbfiaaGreatDoorBigD
import Derived.Test.YtdbpcmddocbfiaaGreatDoorBigF
namespace Go.Proofs.YtdbpcmddocbfiaaGreatDoor
open Go

theorem maps_rowed : mapsRowed Tryz.prog = true := by kernel_rfl
theorem plain_keys : (Rows.playNamesRow.plainKeys == Tryz.prog.plainKeys) = true := by kernel_rfl
theorem stops_heard : Tryz.prog.stopsHeard = true := by kernel_rfl
theorem unf : (Rows.playNamesRow.unfollowed == Tryz.prog.unfollowed 3) = true := by rw [unfollowed_eq]; rfl
theorem recs : (Rows.playNamesRow.recurses == Tryz.prog.recurses 3) = true := by rw [recurses_eq]; rfl
theorem facts : joinedFacts Tryz.prog 3 Tryz.f3 (OpenSpec.ofChange Rows.playNamesSpec).bare Rows.playNamesRow = true := by
  unfold joinedFacts
  simp only [Bool.and_eq_true]
  repeat' with_reducible apply And.intro
  all_goals first
    | with_reducible exact laidOut
    | with_reducible exact maps_rowed
    | with_reducible exact plain_keys
    | with_reducible exact stops_heard
    | with_reducible exact unf
    | with_reducible exact recs
    | with_reducible exact inPlace_eq
    | with_reducible exact named_eq
    | kernel_rfl
end Go.Proofs.YtdbpcmddocbfiaaGreatDoor
