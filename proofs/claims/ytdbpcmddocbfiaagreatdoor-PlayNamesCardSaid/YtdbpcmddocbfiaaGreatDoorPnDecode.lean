/- Decode, of the text "count", a new line, "none": the second line is no step. -/
import Derived.Test.YtdbpcmddocbfiaaGreatDoorPnReadC
import Derived.ChangeAgain
namespace Go.Proofs.PnB
open Go Go.Proofs Go.RowKit

def txt : ByteArray := ⟨#[99, 111, 117, 110, 116, 10, 110, 111, 110, 101]⟩
def one : ByteArray := ⟨#[99, 111, 117, 110, 116]⟩
def two : ByteArray := ⟨#[110, 111, 110, 101]⟩

theorem shaped_below {w w' : World} (h : w.ShapedOpen Tryz.prog) (hb : Below w.heap.size w w') : w'.ShapedOpen Tryz.prog :=
  h.keptBut (hb.frame (fun _ => False)) (fun _ h => h.elim)

theorem plain_one : Plain one := by unfold Plain one; decide +kernel
theorem plain_two : Plain two := by unfold Plain two; decide +kernel
theorem count_one : Lib.countB one ⟨#[32]⟩ = 0 := by decide +kernel
theorem count_two : Lib.countB two ⟨#[32]⟩ = 0 := by decide +kernel
theorem split_one : Lib.splitB ⟨#[32]⟩ 0 0 one = [one] := by decide +kernel
theorem split_two : Lib.splitB ⟨#[32]⟩ 0 0 two = [two] := by decide +kernel
theorem word_one : ∀ k : Nat, 0 < k → k < 24 → ((wordAt k).toList == one.toList) = decide (k = 8) := by
  have : ∀ k : Nat, k < 24 → 0 < k → ((wordAt k).toList == one.toList) = decide (k = 8) := by decide +kernel
  exact fun k h h' => this k h' h
theorem word_two : ∀ k : Nat, 0 < k → k < 24 → ((wordAt k).toList == two.toList) = false := by
  have : ∀ k : Nat, k < 24 → 0 < k → ((wordAt k).toList == two.toList) = false := by decide +kernel
  exact fun k h h' => this k h' h
theorem cut_one : Lib.cut txt.data.toList [10] = (one.data.toList, two.data.toList, true) := by decide +kernel
theorem cut_two : Lib.cut two.data.toList [10] = (two.data.toList, [], false) := by decide +kernel

theorem info57 : (Tryz.prog.info? 57).map (fun i => (i.zero, i.size, i.bytes)) = some (some (.agg #[.int .i64 0, .slice none 0 0, .slice none 0 0, .int .i64 0, .int .i64 0, .int .i64 0]), 6, 80) := by kernel_rfl

set_option maxHeartbeats 4000000 in
set_option maxRecDepth 100000 in
theorem Decode_it (w : World) (T : TypeId) (fr : Nat × Nat) (hsh : w.ShapedOpen Tryz.prog) (hrows : w.heap[0]? = some (.cells rowCells T fr)) :
    Calls Tryz.prog 7 #[.string txt] w fun e w' => e = .returned (.tuple #[.slice none 0 0, .int .i64 2, .int .i64 270]) ∧ Below w.heap.size w w' := by
  have h0 : 0 < w.heap.size := by
    rcases Nat.lt_or_ge 0 w.heap.size with h' | h'
    · exact h'
    · simp [Array.getElem?_eq_none h'] at hrows
  have e1 : txt.toList.isEmpty = false := by decide +kernel
  have e2 : two.toList.isEmpty = false := by decide +kernel
  have e3 : one.toList.isEmpty = false := by decide +kernel
  have HC1 := Lib.hid cut_one
  have HC2 := Lib.hid cut_two
  have Hrows := Lib.hid hrows
  clear hrows
  go_enter Tryz.func7, Tryz.ntmps7
  go_wp2
  refine wp_loop_rounds 2 ?_
  rw [rounds_succ]
  go_wp2_with (go_at_call 14; refine (Tryz.strings_Cut_shaped _ _ _ hsh (by decide)).mono ?_; rintro e w' ⟨rfl, n1, rfl⟩; rw [show (⟨#[10]⟩ : ByteArray).data.toList = [10] from rfl, HC1.out])
  have hs1 : (w.drewN n1).ShapedOpen Tryz.prog := shaped_below hsh (below_drewN (Below.refl _ _) _)
  refine (words_one one _ hs1 (by decide) (by decide) (by decide +kernel) (by decide +kernel) plain_one count_one split_one).mono ?_
  rintro e w1 ⟨g, cap, rfl, hcap, hglt, hcell, hge, hb1⟩
  have hb1' : Below w.heap.size w w1 := (below_drewN (Below.refl _ _) _).trans hb1
  have hr1 : w1.heap[0]? = some (.cells rowCells T fr) := (hb1'.block 0 h0).trans Hrows.out
  obtain ⟨i0, hi, hz0, hz1, hz2⟩ := info_parts info57
  go_wp2_with (first
    | (go_at_call 16; refine (read_count one g cap w1 T fr hr1 hglt hcap hcell word_one).mono ?_; rintro e w2 ⟨rfl, hb2⟩)
    | (at_builtin; refine wpList_append_own _ rfl _ _ 30 rfl w.heap.size 57 i0 _ 6 80 Tryz.underlying30 hi hz0 hz1 hz2 rfl (by decide) _ _ _ rfl (World.ownsRow_nil _ _ _ _) ⟨w2.heap.size + 1, 0, none⟩ 1 1 [.int .i64 8, .slice none 0 0, .slice none 0 0, .int .i64 0, .int .i64 0, .int .i64 0] rfl rfl ?c1 ?c2 ?c3 ?c4 ?c5 ?_))
  case c1 =>
    intro j u hj
    match j, hj with
    | 0, hj | 1, hj | 2, hj | 3, hj | 4, hj | 5, hj => simp at hj; subst hj; simp [Addr.add]
  case c2 => intro u hu; simp at hu; rcases hu with rfl | rfl | rfl | rfl | rfl | rfl <;> rfl
  case c3 => unfold maxLen; decide
  case c4 => decide
  case c5 => have := hb1'.size; have := hb2.size; simp; omega
  intro v' w3 hown' hgrow _
  have hb2' : Below w.heap.size w w2 := hb1'.trans (hb2.mono hb1'.size)
  have hb3 : Below w.heap.size w w3 := by
    have h1 := hb2'.alloc hb2'.size (.cells #[.int .i64 8, .slice none 0 0, .slice none 0 0, .int .i64 0, .int .i64 0, .int .i64 0] 57)
    have h2 := h1.alloc h1.size (.cells #[.int .i64 8, .slice none 0 0, .slice none 0 0, .int .i64 0, .int .i64 0, .int .i64 0] 57)
    exact h2.grown hgrow (by simpa using h2.size) (fun k hk => by simp [Value.ownBlock] at hk)
  clear hown' hgrow hcell
  go_wp2
  rw [rounds_succ]
  have hs3 : w3.ShapedOpen Tryz.prog := shaped_below hsh hb3
  go_wp2_with (go_at_call 14; refine (Tryz.strings_Cut_shaped _ _ _ hs3 (by decide)).mono ?_; rintro e w' ⟨rfl, n1, rfl⟩; rw [show (⟨#[10]⟩ : ByteArray).data.toList = [10] from rfl, HC2.out])
  have hs4 : (w3.drewN n1).ShapedOpen Tryz.prog := shaped_below hs3 (below_drewN (Below.refl _ _) _)
  refine (words_one two _ hs4 (by decide) (by decide) (by decide +kernel) (by decide +kernel) plain_two count_two split_two).mono ?_
  rintro e w4 ⟨g2, cap2, rfl, hcap2, hglt2, hcell2, hge2, hb4⟩
  have hb4' : Below w.heap.size w w4 := (below_drewN hb3 _).trans (hb4.mono hb3.size)
  have hr4 : w4.heap[0]? = some (.cells rowCells T fr) := (hb4'.block 0 h0).trans Hrows.out
  go_wp2_with (go_at_call 16; refine (read_none two g2 cap2 w4 T fr hr4 hglt2 hcell2 word_two).mono ?_; rintro e w5 ⟨rfl, hb5⟩)
  go_ret3
  have hb5' : Below w.heap.size w w5 := hb4'.trans (hb5.mono hb4'.size)
  exact ⟨rfl, hb5'.alloc hb5'.size _⟩
end Go.Proofs.PnB
