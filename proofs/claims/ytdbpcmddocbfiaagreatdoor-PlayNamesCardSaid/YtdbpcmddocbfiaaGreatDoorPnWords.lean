/- words, of a line that is one plain word. -/
import Derived.Test.YtdbpcmddocbfiaaGreatDoorPnEsc
namespace Go.Proofs.PnB
open Go Go.Proofs Go.RowKit

theorem info9 : (Tryz.prog.info? 9).map (fun i => (i.zero, i.size, i.bytes)) = some (some (.string ⟨#[]⟩), 1, 16) := by kernel_rfl

set_option maxHeartbeats 2000000 in
set_option maxRecDepth 100000 in
theorem words_one (s : ByteArray) (w : World) (hsh : w.ShapedOpen Tryz.prog) (hs : s.size ≤ 1000) (h0 : s.data.toList ≠ []) (hnil : s.toList.isEmpty = false) (hper : (s.toList == [37]) = false) (hp : Plain s)
    (hcount : Lib.countB s ⟨#[32]⟩ = 0) (hsplit : Lib.splitB ⟨#[32]⟩ 0 0 s = [s]) :
    Calls Tryz.prog 15 #[.string s] w fun e w' => ∃ g cap, e = .returned (.tuple #[.slice (some ⟨g, 0, none⟩) 1 cap, .bool true]) ∧ 1 ≤ cap ∧ g < w'.heap.size ∧ w'.cell? ⟨g, 0, none⟩ = some (.string s) ∧ w.heap.size ≤ g ∧ Below w.heap.size w w' := by
  obtain ⟨i0, hi, hz0, hz1, hz2⟩ := info_parts info9
  have HC := Lib.hid hcount; have HS := Lib.hid hsplit; clear hcount hsplit
  go_enter Tryz.func15, Tryz.ntmps15
  go_wp2_with (go_at_call 25; refine (Tryz.strings_Split_shaped _ _ _ hsh (by omega) (by decide)).mono ?_; rintro e w' ⟨rfl, rfl⟩; rw [HC.out, HS.out])
  refine wp_loop_rounds 2 ?_
  rw [rounds_succ]
  go_wp2_with (first
    | (go_at_call 26; refine (unescaped_plain s _ hs h0 hnil hper hp).mono ?_; rintro e w1 ⟨rfl, hb1⟩)
    | (at_builtin; refine wpList_append_own _ rfl _ _ 41 rfl w.heap.size 9 i0 (.string ⟨#[]⟩) 1 16 Tryz.underlying41 hi hz0 hz1 hz2 rfl (by decide) _ _ _ rfl (World.ownsRow_nil _ _ _ _) ⟨w1.heap.size, 0, none⟩ 1 1 [.string s] rfl rfl ?c1 ?c2 ?c3 ?c4 ?c5 ?_))
  case c1 =>
    intro j u hj
    match j, hj with
    | 0, hj => simp at hj; subst hj; simp [Addr.add]
  case c2 => intro u hu; simp at hu; subst hu; rfl
  case c3 => unfold maxLen; decide
  case c4 => decide
  case c5 => have := hb1.size; simp at this ⊢; omega
  intro v' w2 hown' hgrow _
  obtain ⟨g, cap, rfl, hg, hcap, hglt, hcell⟩ : ∃ g cap, v' = .slice (some ⟨g, 0, none⟩) 1 cap ∧ w.heap.size ≤ g ∧ 1 ≤ cap ∧ g < w2.heap.size ∧ w2.cell? ⟨g, 0, none⟩ = some (.string s) := by
    rcases hown'.2 with ⟨_, h0⟩ | ⟨g, cap, cur, hv, hr⟩
    · omega
    · exact ⟨g, cap, hv, hr.1, hr.2.2.1, by
        rcases Nat.lt_or_ge g w2.heap.size with h' | h'
        · exact h'
        · have := hr.2.1; simp [Array.getElem?_eq_none h'] at this, hown'.cells (g := g) (by rw [hv]; rfl) 0 _ rfl⟩
  go_wp2
  rw [rounds_succ]
  go_wp2
  go_ret2
  refine ⟨g, cap, rfl, hcap, hglt, hcell, hg, ?_⟩
  have hbel0 : Below w.heap.size w w1 := ((Below.refl _ _).alloc (Nat.le_refl _) _).trans (hb1.mono (by simp))
  exact (hbel0.alloc hbel0.size _).grown hgrow (by have := hbel0.size; simp; omega) (fun k hk => by simp [Value.ownBlock] at hk)
end Go.Proofs.PnB
