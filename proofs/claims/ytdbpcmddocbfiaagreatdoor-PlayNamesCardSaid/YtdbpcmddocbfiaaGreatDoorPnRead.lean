/- read, of one word that names a step without anything behind it, and of one that names none. -/
import Derived.Test.YtdbpcmddocbfiaaGreatDoorPnWords
import Derived.BigQuiet
import Derived.Deep.QuietTactic
import Derived.Laws.Rows
import Derived.WalkSmall
namespace Go.Proofs.PnB
open Go Go.Proofs Go.RowKit

/-- the words of the steps, by their kinds. -/
def wordsOf : List ByteArray := [⟨#[]⟩, ⟨#[99, 114, 101, 97, 116, 101]⟩, ⟨#[111, 112, 101, 110]⟩, ⟨#[105, 110, 115, 101, 114, 116]⟩, ⟨#[100, 101, 108, 101, 116, 101]⟩, ⟨#[103, 101, 116]⟩, ⟨#[116, 111, 112]⟩, ⟨#[114, 97, 100, 105, 117, 115]⟩, ⟨#[99, 111, 117, 110, 116]⟩, ⟨#[115, 121, 110, 99]⟩, ⟨#[99, 111, 109, 112, 97, 99, 116]⟩, ⟨#[99, 108, 111, 115, 101]⟩, ⟨#[97, 114, 109]⟩, ⟨#[99, 114, 97, 115, 104]⟩, ⟨#[105, 109, 97, 103, 101]⟩, ⟨#[114, 111, 111, 109]⟩, ⟨#[105, 110, 115, 112, 101, 99, 116]⟩, ⟨#[114, 101, 112, 97, 105, 114]⟩, ⟨#[103, 114, 111, 117, 112, 115]⟩, ⟨#[106, 111, 105, 110]⟩, ⟨#[115, 101, 110, 100]⟩, ⟨#[102, 111, 108, 108, 111, 119]⟩, ⟨#[97, 115, 107]⟩, ⟨#[115, 112, 111, 105, 108]⟩]
/-- the cells of the table of rows. -/
def rowCells : Array Value := #[.string ⟨#[]⟩, .int .i64 0, .int .i64 0, .bool false, .bool false, .string ⟨#[99, 114, 101, 97, 116, 101]⟩, .int .i64 3, .int .i64 0, .bool true, .bool false, .string ⟨#[111, 112, 101, 110]⟩, .int .i64 0, .int .i64 0, .bool false, .bool false, .string ⟨#[105, 110, 115, 101, 114, 116]⟩, .int .i64 1, .int .i64 1, .bool false, .bool false, .string ⟨#[100, 101, 108, 101, 116, 101]⟩, .int .i64 1, .int .i64 0, .bool false, .bool false, .string ⟨#[103, 101, 116]⟩, .int .i64 1, .int .i64 0, .bool false, .bool false, .string ⟨#[116, 111, 112]⟩, .int .i64 1, .int .i64 1, .bool false, .bool false, .string ⟨#[114, 97, 100, 105, 117, 115]⟩, .int .i64 1, .int .i64 1, .bool false, .bool false, .string ⟨#[99, 111, 117, 110, 116]⟩, .int .i64 0, .int .i64 0, .bool false, .bool false, .string ⟨#[115, 121, 110, 99]⟩, .int .i64 0, .int .i64 0, .bool false, .bool false, .string ⟨#[99, 111, 109, 112, 97, 99, 116]⟩, .int .i64 0, .int .i64 0, .bool false, .bool false, .string ⟨#[99, 108, 111, 115, 101]⟩, .int .i64 0, .int .i64 0, .bool false, .bool false, .string ⟨#[97, 114, 109]⟩, .int .i64 2, .int .i64 0, .bool false, .bool false, .string ⟨#[99, 114, 97, 115, 104]⟩, .int .i64 2, .int .i64 1, .bool false, .bool true, .string ⟨#[105, 109, 97, 103, 101]⟩, .int .i64 0, .int .i64 0, .bool false, .bool false, .string ⟨#[114, 111, 111, 109]⟩, .int .i64 1, .int .i64 0, .bool false, .bool false, .string ⟨#[105, 110, 115, 112, 101, 99, 116]⟩, .int .i64 0, .int .i64 0, .bool false, .bool false, .string ⟨#[114, 101, 112, 97, 105, 114]⟩, .int .i64 0, .int .i64 0, .bool false, .bool false, .string ⟨#[103, 114, 111, 117, 112, 115]⟩, .int .i64 2, .int .i64 0, .bool false, .bool false, .string ⟨#[106, 111, 105, 110]⟩, .int .i64 1, .int .i64 0, .bool false, .bool false, .string ⟨#[115, 101, 110, 100]⟩, .int .i64 1, .int .i64 0, .bool false, .bool false, .string ⟨#[102, 111, 108, 108, 111, 119]⟩, .int .i64 1, .int .i64 1, .bool false, .bool false, .string ⟨#[97, 115, 107]⟩, .int .i64 0, .int .i64 1, .bool false, .bool false, .string ⟨#[115, 112, 111, 105, 108]⟩, .int .i64 2, .int .i64 1, .bool false, .bool false]

def wordAt (k : Nat) : ByteArray := wordsOf.getD k ⟨#[]⟩

theorem row_at : ∀ k : Nat, k < 24 → ∃ (a b : Int) (c d : Bool), ∀ w, (Instr.index 78 (.agg rowCells) (.int .i64 k)).run Tryz.prog w = .ok (.agg #[.string (wordAt k), .int .i64 a, .int .i64 b, .bool c, .bool d]) w := by
  intro k hk
  match k, hk with
  | 0, _ => exact ⟨0, 0, false, false, fun _ => by kernel_rfl⟩
  | 1, _ => exact ⟨3, 0, true, false, fun _ => by kernel_rfl⟩
  | 2, _ => exact ⟨0, 0, false, false, fun _ => by kernel_rfl⟩
  | 3, _ => exact ⟨1, 1, false, false, fun _ => by kernel_rfl⟩
  | 4, _ => exact ⟨1, 0, false, false, fun _ => by kernel_rfl⟩
  | 5, _ => exact ⟨1, 0, false, false, fun _ => by kernel_rfl⟩
  | 6, _ => exact ⟨1, 1, false, false, fun _ => by kernel_rfl⟩
  | 7, _ => exact ⟨1, 1, false, false, fun _ => by kernel_rfl⟩
  | 8, _ => exact ⟨0, 0, false, false, fun _ => by kernel_rfl⟩
  | 9, _ => exact ⟨0, 0, false, false, fun _ => by kernel_rfl⟩
  | 10, _ => exact ⟨0, 0, false, false, fun _ => by kernel_rfl⟩
  | 11, _ => exact ⟨0, 0, false, false, fun _ => by kernel_rfl⟩
  | 12, _ => exact ⟨2, 0, false, false, fun _ => by kernel_rfl⟩
  | 13, _ => exact ⟨2, 1, false, true, fun _ => by kernel_rfl⟩
  | 14, _ => exact ⟨0, 0, false, false, fun _ => by kernel_rfl⟩
  | 15, _ => exact ⟨1, 0, false, false, fun _ => by kernel_rfl⟩
  | 16, _ => exact ⟨0, 0, false, false, fun _ => by kernel_rfl⟩
  | 17, _ => exact ⟨0, 0, false, false, fun _ => by kernel_rfl⟩
  | 18, _ => exact ⟨2, 0, false, false, fun _ => by kernel_rfl⟩
  | 19, _ => exact ⟨1, 0, false, false, fun _ => by kernel_rfl⟩
  | 20, _ => exact ⟨1, 0, false, false, fun _ => by kernel_rfl⟩
  | 21, _ => exact ⟨1, 1, false, false, fun _ => by kernel_rfl⟩
  | 22, _ => exact ⟨0, 1, false, false, fun _ => by kernel_rfl⟩
  | 23, _ => exact ⟨2, 1, false, false, fun _ => by kernel_rfl⟩
  | n + 24, h => omega

set_option maxHeartbeats 4000000 in
set_option maxRecDepth 100000 in
theorem read_none (s : ByteArray) (g cap : Nat) (w : World) (T : TypeId) (fr : Nat × Nat) (hrows : w.heap[0]? = some (.cells rowCells T fr)) (hg : g < w.heap.size) (hc : w.cell? ⟨g, 0, none⟩ = some (.string s))
    (hw : ∀ k : Nat, 0 < k → k < 24 → ((wordAt k).toList == s.toList) = false) :
    Calls Tryz.prog 16 #[.slice (some ⟨g, 0, none⟩) 1 cap] w fun e w' => e = .returned (.tuple #[.agg #[.int .i64 0, .slice none 0 0, .slice none 0 0, .int .i64 0, .int .i64 0, .int .i64 0], .int .i64 270]) ∧ Below w.heap.size w w' := by
  go_enter Tryz.func16, Tryz.ntmps16
  have hrows' := Lib.hid (show (w.alloc (.cells #[.int .i64 0, .slice none 0 0, .slice none 0 0, .int .i64 0, .int .i64 0, .int .i64 0] 57)).heap[0]? = some (.cells rowCells T fr) from (Below.heap_alloc _ _ _ (by omega)).trans hrows)
  clear hrows
  go_wp2_with (refine wpList_load_row rfl 78 _ rfl 0 rfl T _ fr _ hrows'.out Tryz.underlying78 rfl (by kernel_rfl) ?_)
  clear hrows'
  go_loopw [4, 5, 6, 16] (fun kd _ _ i wr => ∃ k : Nat, k ≤ 24 ∧ i = .int .i64 k ∧ kd = .int .i64 0 ∧ Below (w.heap.size + 1) (w.alloc (.cells #[.int .i64 0, .slice none 0 0, .slice none 0 0, .int .i64 0, .int .i64 0, .int .i64 0] 57)) wr ∧ w.heap.size < wr.heap.size) (fun _ _ _ i _ => 24 - (intOf i).toNat)
  case atStart => exact ⟨0, by omega, rfl, rfl, Below.refl _ _, by simp⟩
  case round =>
    obtain ⟨k, hk, rfl, rfl, hbel, hsz⟩ := hrel
    have hcell : wr.cell? ⟨g, 0, none⟩ = some (.string s) := (hbel.cell (p := ⟨g, 0, none⟩) (by simp; omega)).trans ((((Below.refl w.heap.size w).alloc (Nat.le_refl _) _).cell (p := ⟨g, 0, none⟩) hg).trans hc)
    by_cases hlt : k < 24
    · obtain ⟨x1, x2, x3, x4, hix⟩ := row_at k hlt
      by_cases h0 : k = 0
      · subst h0
        have hix0 : ∀ w, (Instr.index 78 (.agg rowCells) (.int .i64 0)).run Tryz.prog w = .ok (.agg #[.string (wordAt 0), .int .i64 x1, .int .i64 x2, .bool x3, .bool x4]) w := hix
        clear hix
        go_wp2
        go_quiet (fail)
        go_wp2
        go_roundw
        case rel => exact ⟨1, by omega, by go_num, rfl, below_drewN (hbel.alloc (by omega) _) _, by simp; omega⟩
        case measure => simp [intOf]
      · have hix' := hix
        have hlt0 : 0 < k := by omega
        have hne := hw k hlt0 hlt
        have hgw : g < wr.heap.size := by omega
        have hcell' : ∀ o, (wr.alloc o).cell? ⟨g, 0, none⟩ = some (.string s) := fun o => ((((Below.refl wr.heap.size wr).alloc (Nat.le_refl _) o).cell (p := ⟨g, 0, none⟩) hgw).trans hcell)
        clear hix' hw
        go_wp2
        go_quiet (fail)
        go_wp2
        go_roundw
        case rel => exact ⟨k + 1, by omega, by go_num, rfl, below_drewN (hbel.alloc (by omega) _) _, by simp; omega⟩
        case measure => simp [intOf]; omega
    · obtain rfl : k = 24 := by omega
      have hblk : wr.heap[w.heap.size]? = some (.cells #[.int .i64 0, .slice none 0 0, .slice none 0 0, .int .i64 0, .int .i64 0, .int .i64 0] 57 (0, 0)) := (hbel.block w.heap.size (by omega)).trans (heap_alloc_new w _)
      have c0 : wr.cell? ⟨w.heap.size, 0, none⟩ = some (.int .i64 0) := by rw [Lib.cell_of_heap hblk]; rfl
      have c1 : wr.cell? ⟨w.heap.size, 1, none⟩ = some (.slice none 0 0) := by rw [Lib.cell_of_heap hblk]; rfl
      have c2 : wr.cell? ⟨w.heap.size, 2, none⟩ = some (.slice none 0 0) := by rw [Lib.cell_of_heap hblk]; rfl
      have c3 : wr.cell? ⟨w.heap.size, 3, none⟩ = some (.int .i64 0) := by rw [Lib.cell_of_heap hblk]; rfl
      have c4 : wr.cell? ⟨w.heap.size, 4, none⟩ = some (.int .i64 0) := by rw [Lib.cell_of_heap hblk]; rfl
      have c5 : wr.cell? ⟨w.heap.size, 5, none⟩ = some (.int .i64 0) := by rw [Lib.cell_of_heap hblk]; rfl
      have f0 : wr.frozen? ⟨w.heap.size, 0, none⟩ = false := Lib.frozen_of_heap hblk 0
      have f1 : wr.frozen? ⟨w.heap.size, 1, none⟩ = false := Lib.frozen_of_heap hblk 1
      have f2 : wr.frozen? ⟨w.heap.size, 2, none⟩ = false := Lib.frozen_of_heap hblk 2
      have f3 : wr.frozen? ⟨w.heap.size, 3, none⟩ = false := Lib.frozen_of_heap hblk 3
      have f4 : wr.frozen? ⟨w.heap.size, 4, none⟩ = false := Lib.frozen_of_heap hblk 4
      have f5 : wr.frozen? ⟨w.heap.size, 5, none⟩ = false := Lib.frozen_of_heap hblk 5
      clear hblk
      go_wp2
      refine bodyPost_ret (v := .tuple #[.agg #[.int .i64 0, .slice none 0 0, .slice none 0 0, .int .i64 0, .int .i64 0, .int .i64 0], .int .i64 270]) (by simp [results, Tryz.results16, go_sem, c0, c1, c2, c3, c4, c5]) rfl ⟨rfl, ?_⟩
      have hb0 : Below w.heap.size w wr := ((Below.refl _ _).alloc (Nat.le_refl _) _).trans (hbel.mono (by omega))
      exact (((((hb0.setCell (p := ⟨w.heap.size, 0, none⟩) (Nat.le_refl _) _).setCell (p := ⟨w.heap.size, 1, none⟩) (Nat.le_refl _) _).setCell (p := ⟨w.heap.size, 2, none⟩) (Nat.le_refl _) _).setCell (p := ⟨w.heap.size, 3, none⟩) (Nat.le_refl _) _).setCell (p := ⟨w.heap.size, 4, none⟩) (Nat.le_refl _) _).setCell (p := ⟨w.heap.size, 5, none⟩) (Nat.le_refl _) _

end Go.Proofs.PnB
