/- The program's types lie as the model wants them. No condition. -/
import Derived.Test.YtdbpcmddocbfiaaGreatDoorBigA
namespace Go.Proofs.YtdbpcmddocbfiaaGreatDoor
open Go

theorem all_part {α : Type} (f : α → Bool) (l : List α) (a n : Nat) : (l.drop a).all f = (((l.drop a).take n).all f && (l.drop (a + n)).all f) := by
  rw [← List.drop_drop, ← List.all_append, List.take_append_drop]
noncomputable abbrev fine : Nat → Bool := rowFine Tryz.prog
theorem types_count : Tryz.prog.types.size = 790 := by kernel_rfl
theorem fine0 : (((List.range 790).drop 0).take 130).all fine = true := by kernel_rfl
theorem fine1 : (((List.range 790).drop 130).take 130).all fine = true := by kernel_rfl
theorem fine2 : (((List.range 790).drop 260).take 130).all fine = true := by kernel_rfl
theorem fine3 : (((List.range 790).drop 390).take 130).all fine = true := by kernel_rfl
theorem fine4 : (((List.range 790).drop 520).take 130).all fine = true := by kernel_rfl
theorem fine5 : (((List.range 790).drop 650).take 130).all fine = true := by kernel_rfl
theorem fine6 : ((List.range 790).drop 780).all fine = true := by kernel_rfl
theorem fine_all : (List.range 790).all fine = true := by
  have h := all_part fine (List.range 790) 0 130
  have e0 := fine0
  rw [List.drop_zero] at h e0
  rw [h, e0]
  rw [all_part fine (List.range 790) 130 130, fine1]
  rw [all_part fine (List.range 790) 260 130, fine2]
  rw [all_part fine (List.range 790) 390 130, fine3]
  rw [all_part fine (List.range 790) 520 130, fine4]
  rw [all_part fine (List.range 790) 650 130, fine5]
  rw [fine6]
  rfl
theorem fine_globals : Tryz.prog.globals.all (fun g => decide (g.type < 790)) = true := by kernel_rfl
theorem fine_params : Tryz.prog.funcs.all (fun f => f.params.all fun t => decide (t < 790)) = true := by kernel_rfl
theorem laidOut : laidOutB Tryz.prog = true := by
  unfold laidOutB
  rw [types_count, fine_globals, fine_params]
  have := fine_all
  rw [this]
  rfl
end Go.Proofs.YtdbpcmddocbfiaaGreatDoor
