/- No function of the program starts a goroutine. No condition. -/
import Derived.Test.YtdbpcmddocbfiaaGreatDoorBigA
import Derived.SevenTiedAt
namespace Go.Proofs.YtdbpcmddocbfiaaGreatDoor
open Go

theorem stays0 : ((Tryz.prog.funcs.toList.drop 0).take 150).any Func.goes = false := by kernel_rfl
theorem stays1 : ((Tryz.prog.funcs.toList.drop 150).take 150).any Func.goes = false := by kernel_rfl
theorem stays2 : ((Tryz.prog.funcs.toList.drop 300).take 150).any Func.goes = false := by kernel_rfl
theorem stays3 : ((Tryz.prog.funcs.toList.drop 450).take 150).any Func.goes = false := by kernel_rfl
theorem stays4 : (Tryz.prog.funcs.toList.drop 600).any Func.goes = false := by kernel_rfl
theorem stays : Tryz.prog.funcs.toList.any Func.goes = false := by
  have h := any_part Func.goes Tryz.prog.funcs.toList 0 150
  have e0 := stays0
  rw [List.drop_zero] at h e0
  rw [h, e0]
  rw [any_part Func.goes Tryz.prog.funcs.toList 150 150, stays1]
  rw [any_part Func.goes Tryz.prog.funcs.toList 300 150, stays2]
  rw [any_part Func.goes Tryz.prog.funcs.toList 450 150, stays3]
  rw [stays4]
  rfl
theorem func_named : Tryz.prog.funcNamed "kindred/kindredlaw26.PlayNames" = some 3 := by kernel_rfl
theorem goes_not : false = Rows.playNamesRow.goesBy Tryz.prog := by
  have hs : Tryz.prog.funcs.any Func.goes = false := by rw [← Array.any_toList]; exact stays
  have hg : Tryz.prog.goes 3 = false := by
    unfold Program.goes
    rw [hs, Bool.and_false, Bool.or_false, List.any_eq_false]
    intro g _
    cases hf : Tryz.prog.funcs[g]? with
    | none => simp
    | some fn =>
      have := (List.any_eq_false.1 stays) fn (Array.mem_toList_iff.2 (Array.mem_of_getElem? hf))
      simpa using this
  have hr : Rows.playNamesRow.goesBy Tryz.prog = (Tryz.prog.goesFrom "kindred/kindredlaw26.PlayNames" || false) := rfl
  rw [hr]
  unfold Program.goesFrom
  rw [func_named, Option.any_some, hg]
  rfl
end Go.Proofs.YtdbpcmddocbfiaaGreatDoor
