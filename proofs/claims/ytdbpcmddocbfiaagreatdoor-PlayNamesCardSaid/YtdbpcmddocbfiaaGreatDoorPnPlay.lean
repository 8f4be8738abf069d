/- Play of the text "count", a new line, "none": it tells the second line's refusal; and PlayNames itself. -/
import Derived.Test.YtdbpcmddocbfiaaGreatDoorPnDecode
import Derived.Test.YtdbpcmddocbfiaaGreatDoorPnErr
namespace Go.Proofs.PnB
open Go Go.Proofs Go.RowKit

theorem Error_270 (w : World) : Calls Tryz.prog 4 #[.int .i64 270] w fun e w' => e = .returned (.string ⟨#[117, 110, 107, 110, 111, 119, 110, 32, 115, 116, 101, 112]⟩) ∧ Below w.heap.size w w' := Error_at 45 (by decide) w
theorem Error_30 (w : World) : Calls Tryz.prog 4 #[.int .i64 30] w fun e w' => e = .returned (.string ⟨#[116, 111, 111, 32, 108, 97, 114, 103, 101]⟩) ∧ Below w.heap.size w w' := Error_at 7 (by decide) w
theorem Error_32 (w : World) : Calls Tryz.prog 4 #[.int .i64 32] w fun e w' => e = .returned (.string ⟨#[110, 111, 116, 32, 99, 97, 110, 111, 110, 105, 99, 97, 108]⟩) ∧ Below w.heap.size w w' := Error_at 9 (by decide) w
theorem Itoa_2 (w : World) : Calls Tryz.prog 8 #[.int .i64 2] w fun e w' => e = .returned (.string ⟨#[50]⟩) ∧ w' = w := by
  have h := Tryz.strconv_Itoa_small 2 (by decide) w
  rw [show Lib.decDigits 2 = [50] from by decide +kernel] at h
  exact h

set_option maxHeartbeats 4000000 in
set_option maxRecDepth 100000 in
theorem Play_it (w : World) (T : TypeId) (fr : Nat × Nat) (hsh : w.ShapedOpen Tryz.prog) (hrows : w.heap[0]? = some (.cells rowCells T fr)) :
    Calls Tryz.prog 5 #[.int .i64 1, .string txt] w fun e w' => e = .returned (.string ⟨#[108, 105, 110, 101, 32, 50, 58, 32, 117, 110, 107, 110, 111, 119, 110, 32, 115, 116, 101, 112, 10]⟩) ∧ Below w.heap.size w w' := by
  have Hrows := Lib.hid hrows
  clear hrows
  go_enter Tryz.func5, Tryz.ntmps5
  go_wp2_with (first
    | (go_at_call 7; refine (Decode_it w T fr hsh Hrows.out).mono ?_; rintro e w1 ⟨rfl, hb1⟩)
    | (go_at_call 8; refine (Itoa_2 _).mono ?_; rintro e w2 ⟨rfl, rfl⟩)
    | (go_at_call 4; refine (Error_270 _).mono ?_; rintro e w3 ⟨rfl, hb3⟩))
  go_ret
  refine ⟨?_, hb1.trans (hb3.mono hb1.size)⟩
  exact congrArg (fun b => Ending.returned (.string b)) (by decide +kernel)

set_option maxHeartbeats 4000000 in
set_option maxRecDepth 100000 in
theorem PlayNames_true (w : World) (T : TypeId) (fr : Nat × Nat) (hsh : w.ShapedOpen Tryz.prog) (hrows : w.heap[0]? = some (.cells rowCells T fr)) :
    Calls Tryz.prog 3 #[] w fun e w' => e = .returned (.bool true) ∧ Below w.heap.size w w' := by
  have h0 : 0 < w.heap.size := by
    rcases Nat.lt_or_ge 0 w.heap.size with h' | h'
    · exact h'
    · simp [Array.getElem?_eq_none h'] at hrows
  have Hrows := Lib.hid hrows
  clear hrows
  go_enter Tryz.func3, Tryz.ntmps3
  go_wp2_with fail
  refine (Error_270 _).mono ?_; rintro e w1 ⟨rfl, hb1⟩
  go_wp2_with fail
  refine (Error_30 _).mono ?_; rintro e w2 ⟨rfl, hb2⟩
  go_wp2_with fail
  refine (Error_32 _).mono ?_; rintro e w3 ⟨rfl, hb3⟩
  have hb : Below w.heap.size w w3 := hb1.trans ((hb2.mono hb1.size).trans (hb3.mono (by have := hb1.size; have := hb2.size; omega)))
  have hs3 := shaped_below hsh hb
  have hr3 : w3.heap[0]? = some (.cells rowCells T fr) := (hb.block 0 h0).trans Hrows.out
  have Hr3 := Lib.hid hr3
  clear hr3
  go_wp2_with fail
  refine (Play_it w3 T fr hs3 Hr3.out).mono ?_; rintro e w4 ⟨rfl, hb4⟩
  go_wp2
  go_ret
  exact ⟨rfl, hb.trans (hb4.mono hb.size)⟩
end Go.Proofs.PnB
