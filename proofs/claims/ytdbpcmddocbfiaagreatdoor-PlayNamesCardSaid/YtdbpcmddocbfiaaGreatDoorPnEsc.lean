/- escaped, of a text of printable letters without a percent sign: itself. -/
import Derived.Test.YtdbpcmddocbfiaaGreatDoorPnBuilder
import Derived.Outline
namespace Go.Proofs.PnB
open Go Go.Proofs Go.RowKit

/-- letters that are written as they are. -/
def Plain (s : ByteArray) : Prop := ∀ i (h : i < s.size), 32 < (s[i].toNat : Int) ∧ (s[i].toNat : Int) < 127 ∧ ((s[i].toNat : Int) != 37) = true

theorem take_snoc (s : ByteArray) (k : Nat) (h : k < s.size) : Lib.byteCells (s.data.toList.take (k + 1)) = Lib.byteCells (s.data.toList.take k) ++ [.int .u8 s[k].toNat] := by
  rw [List.take_succ_eq_append_getElem (by simpa using h)]; simp [Lib.byteCells]; rfl

set_option maxHeartbeats 2000000 in
set_option maxRecDepth 100000 in
theorem escaped_plain (s : ByteArray) (w : World) (hs : s.size ≤ 1000) (h0 : s.data.toList ≠ []) (hnil : s.toList.isEmpty = false) (hp : Plain s) :
    Calls Tryz.prog 10 #[.string s] w fun e w' => e = .returned (.string s) ∧ Below w.heap.size w w' := by
  go_enter Tryz.func10, Tryz.ntmps10
  go_wp2
  go_loopw [4, 5, 10] (fun _ _ i wr => ∃ k : Nat, k ≤ s.size ∧ i = .int .i64 k ∧ Lib.IsBuilder 39 5 w.heap.size w.heap.size (Lib.byteCells (s.data.toList.take k)) wr ∧ Below w.heap.size w wr ∧ w.heap.size ≤ wr.heap.size) (fun _ _ i _ => s.size - (intOf i).toNat)
  case atStart => exact ⟨0, Nat.zero_le _, rfl, Lib.fresh_isBuilder 39 5 w, (Below.refl _ _).alloc (Nat.le_refl _) _, by simp⟩
  case round =>
    obtain ⟨k, hk, rfl, hb, hbel, hsz⟩ := hrel
    by_cases hlt : k < s.size
    · obtain ⟨p1, p2, p3⟩ := hp k hlt
      have hts := Lib.hid (take_snoc s k hlt)
      have hlen : (Lib.byteCells (s.data.toList.take k)).length + 1 ≤ 140737488355328 := by simp [Lib.byteCells]; omega
      go_wp2_with (go_at_call 20; refine (WriteByte _ _ _ _ _ hb hlen hsz).mono ?_; rintro e w1 ⟨rfl, hb1, hbel1⟩)
      go_roundw
      case rel => exact ⟨k + 1, by omega, by go_num, by rw [hts.out]; exact .inr hb1, hbel.trans hbel1, by have := hbel1.size; omega⟩
      case measure => simp [intOf]; omega
    · have hk' : k = s.size := by omega
      subst hk'
      have htake : s.data.toList.take s.size = s.data.toList := List.take_of_length_le (by simp)
      rw [htake] at hb
      go_wp2_with (go_at_call 13; refine (Tryz.Builder_String _ _ _ _ hb h0).mono ?_; rintro e w1 ⟨rfl, hbel1⟩)
      go_ret
      exact ⟨rfl, hbel.trans hbel1⟩

set_option maxHeartbeats 2000000 in
set_option maxRecDepth 100000 in
theorem unescaped_plain (s : ByteArray) (w : World) (hs : s.size ≤ 1000) (h0 : s.data.toList ≠ []) (hnil : s.toList.isEmpty = false) (hper : (s.toList == [37]) = false) (hp : Plain s) :
    Calls Tryz.prog 26 #[.string s] w fun e w' => e = .returned (.tuple #[.string s, .bool true]) ∧ Below w.heap.size w w' := by
  go_enter Tryz.func26, Tryz.ntmps26
  go_wp2
  go_loopw [5] (fun i wr => ∃ k : Nat, k ≤ s.size ∧ i = .int .i64 k ∧ Lib.IsBuilder 39 5 w.heap.size w.heap.size (Lib.byteCells (s.data.toList.take k)) wr ∧ Below w.heap.size w wr ∧ w.heap.size ≤ wr.heap.size) (fun i _ => s.size - (intOf i).toNat)
  case atStart => exact ⟨0, Nat.zero_le _, rfl, Lib.fresh_isBuilder 39 5 w, (Below.refl _ _).alloc (Nat.le_refl _) _, by simp⟩
  case round =>
    obtain ⟨k, hk, rfl, hb, hbel, hsz⟩ := hrel
    by_cases hlt : k < s.size
    · obtain ⟨p1, p2, p3⟩ := hp k hlt
      have hts := Lib.hid (take_snoc s k hlt)
      have hlen : (Lib.byteCells (s.data.toList.take k)).length + 1 ≤ 140737488355328 := by simp [Lib.byteCells]; omega
      go_wp2_with (go_at_call 20; refine (WriteByte _ _ _ _ _ hb hlen hsz).mono ?_; rintro e w1 ⟨rfl, hb1, hbel1⟩)
      go_roundw
      case rel => exact ⟨k + 1, by omega, by go_num, by rw [hts.out]; exact .inr hb1, hbel.trans hbel1, by have := hbel1.size; omega⟩
      case measure => simp [intOf]; omega
    · have hk' : k = s.size := by omega
      subst hk'
      have htake : s.data.toList.take s.size = s.data.toList := List.take_of_length_le (by simp)
      rw [htake] at hb
      go_wp2_with (go_at_call 13; refine (Tryz.Builder_String _ _ _ _ hb h0).mono ?_; rintro e w1 ⟨rfl, hbel1⟩)
      go_wp2_with (go_at_call 10; refine (escaped_plain s _ hs h0 hnil hp).mono ?_; rintro e w2 ⟨rfl, hbel2⟩)
      go_ret2
      exact ⟨rfl, (hbel.trans hbel1).trans (hbel2.mono (by have := hbel1.size; omega))⟩
end Go.Proofs.PnB
