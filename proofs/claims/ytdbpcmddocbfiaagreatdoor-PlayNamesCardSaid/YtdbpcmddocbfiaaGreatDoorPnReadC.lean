/- read, of the word "count". -/
import Derived.Test.YtdbpcmddocbfiaaGreatDoorPnRead
namespace Go.Proofs.PnB
open Go Go.Proofs Go.RowKit

def kd8 (k : Nat) : Int := if 8 < k then 8 else 0
theorem kd8_same (k : Nat) (h : k ≠ 8) : kd8 (k + 1) = kd8 k := by unfold kd8; split <;> split <;> omega

set_option maxHeartbeats 4000000 in
set_option maxRecDepth 100000 in
theorem read_count (s : ByteArray) (g cap : Nat) (w : World) (T : TypeId) (fr : Nat × Nat) (hrows : w.heap[0]? = some (.cells rowCells T fr)) (hg : g < w.heap.size) (hcap : 1 ≤ cap) (hc : w.cell? ⟨g, 0, none⟩ = some (.string s))
    (hw : ∀ k : Nat, 0 < k → k < 24 → ((wordAt k).toList == s.toList) = decide (k = 8)) :
    Calls Tryz.prog 16 #[.slice (some ⟨g, 0, none⟩) 1 cap] w fun e w' => e = .returned (.tuple #[.agg #[.int .i64 8, .slice none 0 0, .slice none 0 0, .int .i64 0, .int .i64 0, .int .i64 0], .int .i64 0]) ∧ Below w.heap.size w w' := by
  have h0lt : 0 < w.heap.size := by omega
  go_enter Tryz.func16, Tryz.ntmps16
  have hrows' := Lib.hid (show (w.alloc (.cells #[.int .i64 0, .slice none 0 0, .slice none 0 0, .int .i64 0, .int .i64 0, .int .i64 0] 57)).heap[0]? = some (.cells rowCells T fr) from (Below.heap_alloc _ _ _ (by omega)).trans hrows)
  clear hrows
  go_wp2_with (refine wpList_load_row rfl 78 _ rfl 0 rfl T _ fr _ hrows'.out Tryz.underlying78 rfl (by kernel_rfl) ?_)
  go_loopw [4, 5, 6, 16] (fun kd _ _ i wr => ∃ k : Nat, k ≤ 24 ∧ i = .int .i64 k ∧ kd = .int .i64 (kd8 k) ∧ Below (w.heap.size + 1) (w.alloc (.cells #[.int .i64 0, .slice none 0 0, .slice none 0 0, .int .i64 0, .int .i64 0, .int .i64 0] 57)) wr ∧ w.heap.size < wr.heap.size) (fun _ _ _ i _ => 24 - (intOf i).toNat)
  case atStart => exact ⟨0, by omega, rfl, rfl, Below.refl _ _, by simp⟩
  case round =>
    obtain ⟨k, hk, rfl, hkd, hbel, hsz⟩ := hrel
    have hcell : wr.cell? ⟨g, 0, none⟩ = some (.string s) := (hbel.cell (p := ⟨g, 0, none⟩) (by simp; omega)).trans ((((Below.refl w.heap.size w).alloc (Nat.le_refl _) _).cell (p := ⟨g, 0, none⟩) hg).trans hc)
    by_cases hlt : k < 24
    · obtain ⟨x1, x2, x3, x4, hix⟩ := row_at k hlt
      have hgw : g < wr.heap.size := by omega
      have hcell' : ∀ o, (wr.alloc o).cell? ⟨g, 0, none⟩ = some (.string s) := fun o => ((((Below.refl wr.heap.size wr).alloc (Nat.le_refl _) o).cell (p := ⟨g, 0, none⟩) hgw).trans hcell)
      by_cases h0 : k = 0
      · subst h0
        have hgd : decide ((0 : Int) < ((0 : Nat) : Int)) = false := rfl
        have hix0 : ∀ w, (Instr.index 78 (.agg rowCells) (.int .i64 0)).run Tryz.prog w = .ok (.agg #[.string (wordAt 0), .int .i64 x1, .int .i64 x2, .bool x3, .bool x4]) w := hix
        obtain rfl : u4 = .int .i64 0 := by rw [hkd]; rfl
        clear hix hkd hw
        go_wp2
        go_quiet (fail)
        go_wp2
        go_roundw
        case rel => exact ⟨1, by omega, by go_num, rfl, below_drewN (hbel.alloc (by omega) _) _, by simp; omega⟩
        case measure => simp [intOf]
      · have hlt0 : 0 < k := by omega
        by_cases h8 : k = 8
        · subst h8
          have hne : ((wordAt 8).toList == s.toList) = true := hw 8 hlt0 hlt
          have hix8 : ∀ w, (Instr.index 78 (.agg rowCells) (.int .i64 8)).run Tryz.prog w = .ok (.agg #[.string (wordAt 8), .int .i64 x1, .int .i64 x2, .bool x3, .bool x4]) w := hix
          clear hw hkd hix
          go_wp2
          go_quiet (fail)
          go_wp2
          go_roundw
          case rel => exact ⟨9, by omega, by go_num, rfl, below_drewN (hbel.alloc (by omega) _) _, by simp; omega⟩
          case measure => simp [intOf]
        · have hne : ((wordAt k).toList == s.toList) = false := by rw [hw k hlt0 hlt]; simp [h8]
          have hs8 := Lib.hid (kd8_same k h8)
          have Hkd := Lib.hid hkd
          clear hw hkd
          go_wp2
          go_quiet (fail)
          go_wp2
          go_roundw
          case rel => exact ⟨k + 1, by omega, by go_num, by rw [hs8.out]; exact Hkd.out, below_drewN (hbel.alloc (by omega) _) _, by simp; omega⟩
          case measure => simp [intOf]; omega
    · obtain rfl : k = 24 := by omega
      obtain rfl : u4 = .int .i64 8 := by rw [hkd]; rfl
      clear hkd hw
      have hblk : wr.heap[w.heap.size]? = some (.cells #[.int .i64 0, .slice none 0 0, .slice none 0 0, .int .i64 0, .int .i64 0, .int .i64 0] 57 (0, 0)) := (hbel.block w.heap.size (by omega)).trans (heap_alloc_new w _)
      have hrw : wr.heap[0]? = some (.cells rowCells T fr) := (hbel.block 0 (by omega)).trans hrows'.out
      clear hrows'
      have r0 : wr.cell? ⟨0, 40, none⟩ = some (.string ⟨#[99, 111, 117, 110, 116]⟩) := by rw [Lib.cell_of_heap hrw]; rfl
      have r1 : wr.cell? ⟨0, 41, none⟩ = some (.int .i64 0) := by rw [Lib.cell_of_heap hrw]; rfl
      have r2 : wr.cell? ⟨0, 42, none⟩ = some (.int .i64 0) := by rw [Lib.cell_of_heap hrw]; rfl
      have r3 : wr.cell? ⟨0, 43, none⟩ = some (.bool false) := by rw [Lib.cell_of_heap hrw]; rfl
      have r4 : wr.cell? ⟨0, 44, none⟩ = some (.bool false) := by rw [Lib.cell_of_heap hrw]; rfl
      have c0 : wr.cell? ⟨w.heap.size, 0, none⟩ = some (.int .i64 0) := by rw [Lib.cell_of_heap hblk]; rfl
      have c1 : wr.cell? ⟨w.heap.size, 1, none⟩ = some (.slice none 0 0) := by rw [Lib.cell_of_heap hblk]; rfl
      have c2 : wr.cell? ⟨w.heap.size, 2, none⟩ = some (.slice none 0 0) := by rw [Lib.cell_of_heap hblk]; rfl
      have c3 : wr.cell? ⟨w.heap.size, 3, none⟩ = some (.int .i64 0) := by rw [Lib.cell_of_heap hblk]; rfl
      have c4 : wr.cell? ⟨w.heap.size, 4, none⟩ = some (.int .i64 0) := by rw [Lib.cell_of_heap hblk]; rfl
      have c5 : wr.cell? ⟨w.heap.size, 5, none⟩ = some (.int .i64 0) := by rw [Lib.cell_of_heap hblk]; rfl
      have f0 : wr.frozen? ⟨w.heap.size, 0, none⟩ = false := Lib.frozen_of_heap hblk 0
      have f1 : wr.frozen? ⟨w.heap.size, 1, none⟩ = false := Lib.frozen_of_heap hblk 1
      have f2 : wr.frozen? ⟨w.heap.size, 2, none⟩ = false := Lib.frozen_of_heap hblk 2
      have f3 : wr.frozen? ⟨w.heap.size, 3, none⟩ = false := Lib.frozen_of_heap hblk 3
      have f4 : wr.frozen? ⟨w.heap.size, 4, none⟩ = false := Lib.frozen_of_heap hblk 4
      have f5 : wr.frozen? ⟨w.heap.size, 5, none⟩ = false := Lib.frozen_of_heap hblk 5
      have ra0 : ∀ o, (wr.alloc o).cell? ⟨0, 40, none⟩ = some (.string ⟨#[99, 111, 117, 110, 116]⟩) := fun o => (((Below.refl wr.heap.size wr).alloc (Nat.le_refl _) o).cell (p := ⟨0, 40, none⟩) (by show 0 < wr.heap.size; omega)).trans r0
      have ra1 : ∀ o, (wr.alloc o).cell? ⟨0, 41, none⟩ = some (.int .i64 0) := fun o => (((Below.refl wr.heap.size wr).alloc (Nat.le_refl _) o).cell (p := ⟨0, 41, none⟩) (by show 0 < wr.heap.size; omega)).trans r1
      have ra2 : ∀ o, (wr.alloc o).cell? ⟨0, 42, none⟩ = some (.int .i64 0) := fun o => (((Below.refl wr.heap.size wr).alloc (Nat.le_refl _) o).cell (p := ⟨0, 42, none⟩) (by show 0 < wr.heap.size; omega)).trans r2
      have ra3 : ∀ o, (wr.alloc o).cell? ⟨0, 43, none⟩ = some (.bool false) := fun o => (((Below.refl wr.heap.size wr).alloc (Nat.le_refl _) o).cell (p := ⟨0, 43, none⟩) (by show 0 < wr.heap.size; omega)).trans r3
      have ra4 : ∀ o, (wr.alloc o).cell? ⟨0, 44, none⟩ = some (.bool false) := fun o => (((Below.refl wr.heap.size wr).alloc (Nat.le_refl _) o).cell (p := ⟨0, 44, none⟩) (by show 0 < wr.heap.size; omega)).trans r4
      clear hblk hrw hcell hc
      go_wp2
      by_cases hc1 : cap = 1
      · subst hc1
        go_region
        go_wp2
        refine wp_loop_rounds 1 ?_
        rw [rounds_succ]
        go_wp2
        refine bodyPost_ret (v := .tuple #[.agg #[.int .i64 8, .slice none 0 0, .slice none 0 0, .int .i64 0, .int .i64 0, .int .i64 0], .int .i64 0]) (by simp [results, Tryz.results16, go_sem, c0, c1, c2, c3, c4, c5, hsz]) rfl ⟨rfl, ?_⟩
        have hb0 : Below w.heap.size w wr := ((Below.refl _ _).alloc (Nat.le_refl _) _).trans (hbel.mono (by omega))
        have hb1 := (((((hb0.setCell (p := ⟨w.heap.size, 0, none⟩) (Nat.le_refl _) (.int .i64 8)).setCell (p := ⟨w.heap.size, 1, none⟩) (Nat.le_refl _) (.slice none 0 0)).setCell (p := ⟨w.heap.size, 2, none⟩) (Nat.le_refl _) (.slice none 0 0)).setCell (p := ⟨w.heap.size, 3, none⟩) (Nat.le_refl _) (.int .i64 0)).setCell (p := ⟨w.heap.size, 4, none⟩) (Nat.le_refl _) (.int .i64 0)).setCell (p := ⟨w.heap.size, 5, none⟩) (Nat.le_refl _) (.int .i64 0)
        have hb2 := hb1.alloc hb1.size (.cells #[.string ⟨#[99, 111, 117, 110, 116]⟩, .int .i64 0, .int .i64 0, .bool false, .bool false] 77)
        exact (hb2.alloc hb2.size _).drew
      · have hc2 : 1 < cap := by omega
        go_region
        go_wp2
        refine wp_loop_rounds 1 ?_
        rw [rounds_succ]
        go_wp2
        refine bodyPost_ret (v := .tuple #[.agg #[.int .i64 8, .slice none 0 0, .slice none 0 0, .int .i64 0, .int .i64 0, .int .i64 0], .int .i64 0]) (by simp [results, Tryz.results16, go_sem, c0, c1, c2, c3, c4, c5, hsz]) rfl ⟨rfl, ?_⟩
        have hb0 : Below w.heap.size w wr := ((Below.refl _ _).alloc (Nat.le_refl _) _).trans (hbel.mono (by omega))
        have hb1 := (((((hb0.setCell (p := ⟨w.heap.size, 0, none⟩) (Nat.le_refl _) (.int .i64 8)).setCell (p := ⟨w.heap.size, 1, none⟩) (Nat.le_refl _) (.slice none 0 0)).setCell (p := ⟨w.heap.size, 2, none⟩) (Nat.le_refl _) (.slice none 0 0)).setCell (p := ⟨w.heap.size, 3, none⟩) (Nat.le_refl _) (.int .i64 0)).setCell (p := ⟨w.heap.size, 4, none⟩) (Nat.le_refl _) (.int .i64 0)).setCell (p := ⟨w.heap.size, 5, none⟩) (Nat.le_refl _) (.int .i64 0)
        have hb2 := hb1.alloc hb1.size (.cells #[.string ⟨#[99, 111, 117, 110, 116]⟩, .int .i64 0, .int .i64 0, .bool false, .bool false] 77)
        exact (hb2.alloc hb2.size _).drew
end Go.Proofs.PnB
