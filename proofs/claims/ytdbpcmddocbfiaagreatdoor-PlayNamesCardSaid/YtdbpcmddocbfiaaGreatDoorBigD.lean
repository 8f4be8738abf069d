/- What the law's function reaches that is answered in place, the variables that are named on the way, and that it calls through interfaces. No condition. -/
import Derived.Test.YtdbpcmddocbfiaaGreatDoorBigC
namespace Go.Proofs.YtdbpcmddocbfiaaGreatDoor
open Go

noncomputable abbrev globsOf (g : Nat) : List Nat := ((Tryz.prog.funcs[g]?).bind (·.body)).elim [] Code.globalsNamed
noncomputable abbrev readOf (g : Nat) : Option String := (Tryz.prog.funcs[g]?).bind fun fn => if fn.body.isNone then entryReads.lookup fn.name else none
noncomputable abbrev placeOf (g : Nat) : Option String := (Tryz.prog.funcs[g]?).bind fun fn => if fn.ours || fn.body.isNone || fn.name == "runtime.NumGoroutine" then some fn.name else none
theorem globs0 : ((reached.drop 0).take 160).flatMap globsOf = [1, 1, 1, 8, 9, 0, 0, 3, 4, 2, 6, 7, 5, 5] := by kernel_rfl
theorem reads0 : ((reached.drop 0).take 160).filterMap readOf = ["internal/bytealg.MaxLen"] := by kernel_rfl
theorem places0 : ((reached.drop 0).take 160).filterMap placeOf = ["internal/bytealg.IndexByteString", "internal/bytealg.IndexString", "internal/bytealg.CountString", "internal/abi.NoEscape"] := by kernel_rfl
theorem globs1 : ((reached.drop 160).take 160).flatMap globsOf = [] := by kernel_rfl
theorem reads1 : ((reached.drop 160).take 160).filterMap readOf = [] := by kernel_rfl
theorem places1 : ((reached.drop 160).take 160).filterMap placeOf = ["internal/bytealg.abigen_runtime_cmpstring", "slices.overlaps[kindred/api.RunInfo]", "slices.overlaps[*kindred/run.Run]"] := by kernel_rfl
theorem globs2 : ((reached.drop 320).take 160).flatMap globsOf = [] := by kernel_rfl
theorem reads2 : ((reached.drop 320).take 160).filterMap readOf = [] := by kernel_rfl
theorem places2 : ((reached.drop 320).take 160).filterMap placeOf = [] := by kernel_rfl
theorem globs3 : (reached.drop 480).flatMap globsOf = [10, 10] := by kernel_rfl
theorem reads3 : (reached.drop 480).filterMap readOf = [] := by kernel_rfl
theorem places3 : (reached.drop 480).filterMap placeOf = ["internal/bytealg.MakeNoZero"] := by kernel_rfl
theorem globs_all : reached.flatMap globsOf = [1, 1, 1, 8, 9, 0, 0, 3, 4, 2, 6, 7, 5, 5, 10, 10] := by
  have h := flatMap_part globsOf reached 0 160
  have e0 := globs0
  rw [List.drop_zero] at h e0
  rw [h, e0]
  rw [flatMap_part globsOf reached 160 160, globs1]
  rw [flatMap_part globsOf reached 320 160, globs2]
  rw [globs3]
  rfl
theorem reads_all : reached.filterMap readOf = ["internal/bytealg.MaxLen"] := by
  have h := filterMap_part readOf reached 0 160
  have e0 := reads0
  rw [List.drop_zero] at h e0
  rw [h, e0]
  rw [filterMap_part readOf reached 160 160, reads1]
  rw [filterMap_part readOf reached 320 160, reads2]
  rw [reads3]
  rfl
theorem places_all : reached.filterMap placeOf = ["internal/bytealg.IndexByteString", "internal/bytealg.IndexString", "internal/bytealg.CountString", "internal/abi.NoEscape", "internal/bytealg.abigen_runtime_cmpstring", "slices.overlaps[kindred/api.RunInfo]", "slices.overlaps[*kindred/run.Run]", "internal/bytealg.MakeNoZero"] := by
  have h := filterMap_part placeOf reached 0 160
  have e0 := places0
  rw [List.drop_zero] at h e0
  rw [h, e0]
  rw [filterMap_part placeOf reached 160 160, places1]
  rw [filterMap_part placeOf reached 320 160, places2]
  rw [places3]
  rfl
theorem inPlace_eq : (Rows.playNamesRow.inPlace == Tryz.prog.inPlace 3) = true := by
  have e : Tryz.prog.inPlace 3 = reached.filterMap placeOf := by unfold Program.inPlace; rw [closure_eq]
  rw [e, places_all]
  exact (show (Rows.playNamesRow.inPlace == ["internal/bytealg.IndexByteString", "internal/bytealg.IndexString", "internal/bytealg.CountString", "internal/abi.NoEscape", "internal/bytealg.abigen_runtime_cmpstring", "slices.overlaps[kindred/api.RunInfo]", "slices.overlaps[*kindred/run.Run]", "internal/bytealg.MakeNoZero"]) = true by kernel_rfl)
theorem named_eq : (Rows.playNamesRow.named == Tryz.prog.varsNamed 3) = true := by
  have e : Tryz.prog.varsNamed 3 = (((reached.flatMap globsOf).eraseDups).filterMap (fun g => (Tryz.prog.globals[g]?).map (·.name)) ++ reached.filterMap readOf).eraseDups := by
    unfold Program.varsNamed; rw [closure_eq]
  rw [e, globs_all, reads_all]
  exact (show (Rows.playNamesRow.named == ((([1, 1, 1, 8, 9, 0, 0, 3, 4, 2, 6, 7, 5, 5, 10, 10] : List Nat)).eraseDups.filterMap (fun g => (Tryz.prog.globals[g]?).map (·.name)) ++ ["internal/bytealg.MaxLen"]).eraseDups) = true by kernel_rfl)
theorem unfollowed_eq : Tryz.prog.unfollowed 3 = true := by
  unfold Program.unfollowed
  rw [closure_eq]
  kernel_rfl
theorem recurses_eq : Tryz.prog.recurses 3 = true := by
  unfold Program.recurses
  rw [unfollowed_eq]
  rfl
end Go.Proofs.YtdbpcmddocbfiaaGreatDoor
