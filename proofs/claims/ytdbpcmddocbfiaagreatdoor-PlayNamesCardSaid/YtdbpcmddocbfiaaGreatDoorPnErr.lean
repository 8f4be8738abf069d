/- Errno.Error, by the table of api: the words of the first row that has the number. -/
import Derived.Test.YtdbpcmddocbfiaaGreatDoorPnBuilder
import Derived.Outline
namespace Go.Proofs.PnB
open Go Go.Proofs Go.RowKit

/-- straight-line operations, run one behind the other. -/
def evalOps (P : Program) (ops : Array Oper) : List Nat → Act → World → Option (Act × World)
  | [], a, w => some (a, w)
  | i :: rest, a, w =>
    match ops[i]? with
    | none => evalOps P ops rest a w
    | some o =>
      if Region.wanted o (yielded ops a.tmps) then
        match (execOp a.eval o).run P w with
        | .ok (.value v) w' => evalOps P ops rest (a.put o.dst v) w'
        | .ok .skip w' => evalOps P ops rest (a.put o.dst undef) w'
        | _ => none
      else evalOps P ops rest (a.put o.dst undef) w

theorem wpOps_eval {P : Program} {ops : Array Oper} {Q : Exit → Act → World → Prop} (l : List Nat) :
    ∀ (a : Act) (w : World) (a' : Act) (w' : World), evalOps P ops l a w = some (a', w') → Q .normal a' w' → wpOps P ops Q l a w := by
  induction l with
  | nil => intro a w a' w' h q; simp only [evalOps, Option.some.injEq, Prod.mk.injEq] at h; obtain ⟨rfl, rfl⟩ := h; exact q
  | cons i rest ih =>
    intro a w a' w' h q
    unfold evalOps at h
    unfold wpOps
    cases ho : ops[i]? with
    | none => simp only [ho] at h ⊢; exact ih _ _ _ _ h q
    | some o =>
      simp only [ho] at h ⊢
      by_cases hw : Region.wanted o (yielded ops a.tmps) = true
      · rw [if_pos hw] at h ⊢
        refine .inl ?_
        unfold Oper.wp Oper.upon
        split at h
        · rename_i v w1 hr; rw [hr]; exact ih _ _ _ _ h q
        · rename_i w1 hr; rw [hr]; exact ih _ _ _ _ h q
        · cases h
      · rw [if_neg hw] at h ⊢; exact ih _ _ _ _ h q

theorem wp_region_get {P : Program} {id : Nat} {ops : Array Oper} {Q : Exit → Act → World → Prop} {a : Act} {w : World}
    (hs : (evalOps P ops (List.range ops.size) a w).isSome = true)
    (q : Q .normal ((evalOps P ops (List.range ops.size) a w).get hs).1 ((evalOps P ops (List.range ops.size) a w).get hs).2) : (Code.region id ops false).wp P Q a w :=
  wp_region (wpOps_eval _ _ _ _ _ (Option.some_get hs).symm q)

def textCodes : List Int := [0, 10, 11, 12, 13, 20, 21, 30, 31, 32, 33, 34, 35, 36, 37, 40, 41, 42, 43, 44, 45, 46, 50, 51, 60, 80, 81, 100, 101, 130, 131, 150, 151, 152, 170, 190, 191, 200, 210, 211, 220, 221, 222, 223, 250, 270]
def textWords : List ByteArray := [⟨#[110, 111, 32, 101, 114, 114, 111, 114]⟩, ⟨#[98, 97, 100, 32, 119, 105, 100, 116, 104]⟩, ⟨#[98, 97, 100, 32, 99, 111, 100, 101, 32, 108, 101, 110, 103, 116, 104]⟩, ⟨#[98, 97, 100, 32, 99, 104, 117, 110, 107, 32, 99, 111, 117, 110, 116]⟩, ⟨#[111, 117, 116, 32, 111, 102, 32, 114, 97, 110, 103, 101]⟩, ⟨#[98, 97, 100, 32, 98, 105, 116, 32, 99, 111, 117, 110, 116]⟩, ⟨#[110, 111, 32, 115, 117, 99, 104, 32, 109, 97, 115, 107]⟩, ⟨#[116, 111, 111, 32, 108, 97, 114, 103, 101]⟩, ⟨#[116, 114, 117, 110, 99, 97, 116, 101, 100]⟩, ⟨#[110, 111, 116, 32, 99, 97, 110, 111, 110, 105, 99, 97, 108]⟩, ⟨#[110, 111, 116, 32, 97, 32, 102, 114, 97, 109, 101]⟩, ⟨#[98, 97, 100, 32, 99, 104, 101, 99, 107, 115, 117, 109]⟩, ⟨#[119, 114, 111, 110, 103, 32, 107, 105, 110, 100]⟩, ⟨#[116, 111, 111, 32, 108, 111, 110, 103]⟩, ⟨#[116, 114, 97, 105, 108, 105, 110, 103, 32, 98, 121, 116, 101, 115]⟩, ⟨#[98, 97, 100, 32, 102, 105, 108, 101, 32, 110, 97, 109, 101]⟩, ⟨#[102, 105, 108, 101, 32, 101, 120, 105, 115, 116, 115]⟩, ⟨#[110, 111, 32, 115, 117, 99, 104, 32, 102, 105, 108, 101]⟩, ⟨#[116, 111, 111, 32, 109, 97, 110, 121]⟩, ⟨#[100, 105, 115, 107, 32, 102, 117, 108, 108]⟩, ⟨#[112, 111, 119, 101, 114, 32, 105, 115, 32, 111, 102, 102]⟩, ⟨#[98, 97, 100, 32, 105, 109, 97, 103, 101]⟩, ⟨#[110, 111, 116, 32, 105, 110, 32, 111, 114, 100, 101, 114]⟩, ⟨#[98, 97, 100, 32, 115, 101, 113, 117, 101, 110, 99, 101, 32, 110, 117, 109, 98, 101, 114]⟩, ⟨#[98, 97, 100, 32, 105, 100]⟩, ⟨#[115, 116, 111, 114, 101, 32, 99, 111, 114, 114, 117, 112, 116]⟩, ⟨#[98, 97, 100, 32, 109, 111, 100, 101]⟩, ⟨#[98, 97, 100, 32, 107]⟩, ⟨#[98, 97, 100, 32, 114, 97, 100, 105, 117, 115]⟩, ⟨#[105, 100, 32, 101, 120, 105, 115, 116, 115]⟩, ⟨#[110, 111, 32, 115, 117, 99, 104, 32, 105, 100]⟩, ⟨#[115, 116, 111, 114, 101, 32, 101, 120, 105, 115, 116, 115]⟩, ⟨#[110, 117, 109, 98, 101, 114, 115, 32, 117, 115, 101, 100, 32, 117, 112]⟩, ⟨#[99, 111, 109, 112, 97, 99, 116, 105, 111, 110, 32, 110, 101, 101, 100, 101, 100]⟩, ⟨#[101, 110, 103, 105, 110, 101, 32, 99, 108, 111, 115, 101, 100]⟩, ⟨#[98, 97, 100, 32, 118, 101, 99, 116, 111, 114, 32, 108, 101, 110, 103, 116, 104]⟩, ⟨#[118, 101, 99, 116, 111, 114, 32, 112, 97, 114, 116, 32, 116, 111, 111, 32, 108, 97, 114, 103, 101]⟩, ⟨#[98, 97, 100, 32, 103, 114, 111, 117, 112, 32, 115, 105, 122, 101]⟩, ⟨#[105, 100, 32, 105, 110, 32, 119, 114, 111, 110, 103, 32, 115, 104, 97, 114, 100]⟩, ⟨#[110, 111, 116, 104, 105, 110, 103, 32, 103, 105, 118, 101, 110]⟩, ⟨#[97, 104, 101, 97, 100, 32, 111, 102, 32, 116, 104, 101, 32, 108, 101, 97, 100, 101, 114]⟩, ⟨#[98, 97, 116, 99, 104, 32, 100, 111, 101, 115, 32, 110, 111, 116, 32, 102, 111, 108, 108, 111, 119]⟩, ⟨#[98, 97, 116, 99, 104, 32, 111, 102, 32, 97, 110, 111, 116, 104, 101, 114, 32, 112, 97, 115, 116]⟩, ⟨#[98, 97, 100, 32, 98, 97, 116, 99, 104]⟩, ⟨#[98, 97, 100, 32, 114, 101, 113, 117, 101, 115, 116]⟩, ⟨#[117, 110, 107, 110, 111, 119, 110, 32, 115, 116, 101, 112]⟩]
def textCells : Array Value := #[.int .i64 0, .string ⟨#[110, 111, 32, 101, 114, 114, 111, 114]⟩, .int .i64 10, .string ⟨#[98, 97, 100, 32, 119, 105, 100, 116, 104]⟩, .int .i64 11, .string ⟨#[98, 97, 100, 32, 99, 111, 100, 101, 32, 108, 101, 110, 103, 116, 104]⟩, .int .i64 12, .string ⟨#[98, 97, 100, 32, 99, 104, 117, 110, 107, 32, 99, 111, 117, 110, 116]⟩, .int .i64 13, .string ⟨#[111, 117, 116, 32, 111, 102, 32, 114, 97, 110, 103, 101]⟩, .int .i64 20, .string ⟨#[98, 97, 100, 32, 98, 105, 116, 32, 99, 111, 117, 110, 116]⟩, .int .i64 21, .string ⟨#[110, 111, 32, 115, 117, 99, 104, 32, 109, 97, 115, 107]⟩, .int .i64 30, .string ⟨#[116, 111, 111, 32, 108, 97, 114, 103, 101]⟩, .int .i64 31, .string ⟨#[116, 114, 117, 110, 99, 97, 116, 101, 100]⟩, .int .i64 32, .string ⟨#[110, 111, 116, 32, 99, 97, 110, 111, 110, 105, 99, 97, 108]⟩, .int .i64 33, .string ⟨#[110, 111, 116, 32, 97, 32, 102, 114, 97, 109, 101]⟩, .int .i64 34, .string ⟨#[98, 97, 100, 32, 99, 104, 101, 99, 107, 115, 117, 109]⟩, .int .i64 35, .string ⟨#[119, 114, 111, 110, 103, 32, 107, 105, 110, 100]⟩, .int .i64 36, .string ⟨#[116, 111, 111, 32, 108, 111, 110, 103]⟩, .int .i64 37, .string ⟨#[116, 114, 97, 105, 108, 105, 110, 103, 32, 98, 121, 116, 101, 115]⟩, .int .i64 40, .string ⟨#[98, 97, 100, 32, 102, 105, 108, 101, 32, 110, 97, 109, 101]⟩, .int .i64 41, .string ⟨#[102, 105, 108, 101, 32, 101, 120, 105, 115, 116, 115]⟩, .int .i64 42, .string ⟨#[110, 111, 32, 115, 117, 99, 104, 32, 102, 105, 108, 101]⟩, .int .i64 43, .string ⟨#[116, 111, 111, 32, 109, 97, 110, 121]⟩, .int .i64 44, .string ⟨#[100, 105, 115, 107, 32, 102, 117, 108, 108]⟩, .int .i64 45, .string ⟨#[112, 111, 119, 101, 114, 32, 105, 115, 32, 111, 102, 102]⟩, .int .i64 46, .string ⟨#[98, 97, 100, 32, 105, 109, 97, 103, 101]⟩, .int .i64 50, .string ⟨#[110, 111, 116, 32, 105, 110, 32, 111, 114, 100, 101, 114]⟩, .int .i64 51, .string ⟨#[98, 97, 100, 32, 115, 101, 113, 117, 101, 110, 99, 101, 32, 110, 117, 109, 98, 101, 114]⟩, .int .i64 60, .string ⟨#[98, 97, 100, 32, 105, 100]⟩, .int .i64 80, .string ⟨#[115, 116, 111, 114, 101, 32, 99, 111, 114, 114, 117, 112, 116]⟩, .int .i64 81, .string ⟨#[98, 97, 100, 32, 109, 111, 100, 101]⟩, .int .i64 100, .string ⟨#[98, 97, 100, 32, 107]⟩, .int .i64 101, .string ⟨#[98, 97, 100, 32, 114, 97, 100, 105, 117, 115]⟩, .int .i64 130, .string ⟨#[105, 100, 32, 101, 120, 105, 115, 116, 115]⟩, .int .i64 131, .string ⟨#[110, 111, 32, 115, 117, 99, 104, 32, 105, 100]⟩, .int .i64 150, .string ⟨#[115, 116, 111, 114, 101, 32, 101, 120, 105, 115, 116, 115]⟩, .int .i64 151, .string ⟨#[110, 117, 109, 98, 101, 114, 115, 32, 117, 115, 101, 100, 32, 117, 112]⟩, .int .i64 152, .string ⟨#[99, 111, 109, 112, 97, 99, 116, 105, 111, 110, 32, 110, 101, 101, 100, 101, 100]⟩, .int .i64 170, .string ⟨#[101, 110, 103, 105, 110, 101, 32, 99, 108, 111, 115, 101, 100]⟩, .int .i64 190, .string ⟨#[98, 97, 100, 32, 118, 101, 99, 116, 111, 114, 32, 108, 101, 110, 103, 116, 104]⟩, .int .i64 191, .string ⟨#[118, 101, 99, 116, 111, 114, 32, 112, 97, 114, 116, 32, 116, 111, 111, 32, 108, 97, 114, 103, 101]⟩, .int .i64 200, .string ⟨#[98, 97, 100, 32, 103, 114, 111, 117, 112, 32, 115, 105, 122, 101]⟩, .int .i64 210, .string ⟨#[105, 100, 32, 105, 110, 32, 119, 114, 111, 110, 103, 32, 115, 104, 97, 114, 100]⟩, .int .i64 211, .string ⟨#[110, 111, 116, 104, 105, 110, 103, 32, 103, 105, 118, 101, 110]⟩, .int .i64 220, .string ⟨#[97, 104, 101, 97, 100, 32, 111, 102, 32, 116, 104, 101, 32, 108, 101, 97, 100, 101, 114]⟩, .int .i64 221, .string ⟨#[98, 97, 116, 99, 104, 32, 100, 111, 101, 115, 32, 110, 111, 116, 32, 102, 111, 108, 108, 111, 119]⟩, .int .i64 222, .string ⟨#[98, 97, 116, 99, 104, 32, 111, 102, 32, 97, 110, 111, 116, 104, 101, 114, 32, 112, 97, 115, 116]⟩, .int .i64 223, .string ⟨#[98, 97, 100, 32, 98, 97, 116, 99, 104]⟩, .int .i64 250, .string ⟨#[98, 97, 100, 32, 114, 101, 113, 117, 101, 115, 116]⟩, .int .i64 270, .string ⟨#[117, 110, 107, 110, 111, 119, 110, 32, 115, 116, 101, 112]⟩]

set_option maxRecDepth 100000 in
theorem texts_any (w : World) : Calls Tryz.prog 6 #[] w fun e w' => e = .returned (.slice (some ⟨w.heap.size, 0, none⟩) 46 46) ∧ w' = w.alloc (.cells textCells 29) := by
  refine calls_of_wp Tryz.func6 rfl ?_
  refine wp_seq (wp_region_get (by kernel_rfl) ?_)
  refine wp_seq (wp_region_get (by kernel_rfl) ?_)
  refine wp_ret ?_
  refine ⟨by kernel_rfl, .slice (some ⟨w.heap.size, 0, none⟩) 46 46, by kernel_rfl, by kernel_rfl, by kernel_rfl⟩

def codeAt (k : Nat) : Int := textCodes.getD k 0
def textAt (k : Nat) : ByteArray := textWords.getD k ⟨#[]⟩

theorem cells_at : ∀ k : Nat, k < 46 → textCells[k * 2]? = some (.int .i64 (codeAt k)) ∧ textCells[k * 2 + 1]? = some (.string (textAt k)) := by
  intro k hk
  match k, hk with
  | 0, _ => exact ⟨by kernel_rfl, by kernel_rfl⟩
  | 1, _ => exact ⟨by kernel_rfl, by kernel_rfl⟩
  | 2, _ => exact ⟨by kernel_rfl, by kernel_rfl⟩
  | 3, _ => exact ⟨by kernel_rfl, by kernel_rfl⟩
  | 4, _ => exact ⟨by kernel_rfl, by kernel_rfl⟩
  | 5, _ => exact ⟨by kernel_rfl, by kernel_rfl⟩
  | 6, _ => exact ⟨by kernel_rfl, by kernel_rfl⟩
  | 7, _ => exact ⟨by kernel_rfl, by kernel_rfl⟩
  | 8, _ => exact ⟨by kernel_rfl, by kernel_rfl⟩
  | 9, _ => exact ⟨by kernel_rfl, by kernel_rfl⟩
  | 10, _ => exact ⟨by kernel_rfl, by kernel_rfl⟩
  | 11, _ => exact ⟨by kernel_rfl, by kernel_rfl⟩
  | 12, _ => exact ⟨by kernel_rfl, by kernel_rfl⟩
  | 13, _ => exact ⟨by kernel_rfl, by kernel_rfl⟩
  | 14, _ => exact ⟨by kernel_rfl, by kernel_rfl⟩
  | 15, _ => exact ⟨by kernel_rfl, by kernel_rfl⟩
  | 16, _ => exact ⟨by kernel_rfl, by kernel_rfl⟩
  | 17, _ => exact ⟨by kernel_rfl, by kernel_rfl⟩
  | 18, _ => exact ⟨by kernel_rfl, by kernel_rfl⟩
  | 19, _ => exact ⟨by kernel_rfl, by kernel_rfl⟩
  | 20, _ => exact ⟨by kernel_rfl, by kernel_rfl⟩
  | 21, _ => exact ⟨by kernel_rfl, by kernel_rfl⟩
  | 22, _ => exact ⟨by kernel_rfl, by kernel_rfl⟩
  | 23, _ => exact ⟨by kernel_rfl, by kernel_rfl⟩
  | 24, _ => exact ⟨by kernel_rfl, by kernel_rfl⟩
  | 25, _ => exact ⟨by kernel_rfl, by kernel_rfl⟩
  | 26, _ => exact ⟨by kernel_rfl, by kernel_rfl⟩
  | 27, _ => exact ⟨by kernel_rfl, by kernel_rfl⟩
  | 28, _ => exact ⟨by kernel_rfl, by kernel_rfl⟩
  | 29, _ => exact ⟨by kernel_rfl, by kernel_rfl⟩
  | 30, _ => exact ⟨by kernel_rfl, by kernel_rfl⟩
  | 31, _ => exact ⟨by kernel_rfl, by kernel_rfl⟩
  | 32, _ => exact ⟨by kernel_rfl, by kernel_rfl⟩
  | 33, _ => exact ⟨by kernel_rfl, by kernel_rfl⟩
  | 34, _ => exact ⟨by kernel_rfl, by kernel_rfl⟩
  | 35, _ => exact ⟨by kernel_rfl, by kernel_rfl⟩
  | 36, _ => exact ⟨by kernel_rfl, by kernel_rfl⟩
  | 37, _ => exact ⟨by kernel_rfl, by kernel_rfl⟩
  | 38, _ => exact ⟨by kernel_rfl, by kernel_rfl⟩
  | 39, _ => exact ⟨by kernel_rfl, by kernel_rfl⟩
  | 40, _ => exact ⟨by kernel_rfl, by kernel_rfl⟩
  | 41, _ => exact ⟨by kernel_rfl, by kernel_rfl⟩
  | 42, _ => exact ⟨by kernel_rfl, by kernel_rfl⟩
  | 43, _ => exact ⟨by kernel_rfl, by kernel_rfl⟩
  | 44, _ => exact ⟨by kernel_rfl, by kernel_rfl⟩
  | 45, _ => exact ⟨by kernel_rfl, by kernel_rfl⟩
  | n + 46, h => omega

theorem codes_apart : ∀ k : Nat, k < 46 → ∀ j : Nat, j < 46 → k ≠ j → (codeAt k == codeAt j) = false := by
  decide +kernel

set_option maxHeartbeats 4000000 in
set_option maxRecDepth 100000 in
theorem Error_at (j : Nat) (hj : j < 46) (w : World) :
    Calls Tryz.prog 4 #[.int .i64 (codeAt j)] w fun e w' => e = .returned (.string (textAt j)) ∧ Below w.heap.size w w' := by
  go_enter Tryz.func4, Tryz.ntmps4
  go_wp2_with (go_at_call 6; refine (texts_any _).mono ?_; rintro e w' ⟨rfl, rfl⟩)
  go_loopw [4, 7] (fun _ i wr => ∃ k : Nat, k ≤ j ∧ i = .int .i64 k ∧ Below (w.heap.size + 1) (w.alloc (.cells textCells 29)) wr ∧ w.heap.size < wr.heap.size) (fun _ i _ => 46 - (intOf i).toNat)
  case atStart => exact ⟨0, by omega, rfl, Below.refl _ _, by simp⟩
  case round =>
    obtain ⟨k, hk, rfl, hbel, hsz⟩ := hrel
    have hlt : k < 46 := by omega
    have hblk : wr.heap[w.heap.size]? = some (.cells textCells 29 (0, 0)) := (hbel.block w.heap.size (by omega)).trans (heap_alloc_new w _)
    have c0 : wr.cell? ⟨w.heap.size, k * 2, none⟩ = some (.int .i64 (codeAt k)) := by rw [Lib.cell_of_heap hblk]; exact (cells_at k hlt).1
    have c1 : wr.cell? ⟨w.heap.size, k * 2 + 1, none⟩ = some (.string (textAt k)) := by rw [Lib.cell_of_heap hblk]; exact (cells_at k hlt).2
    clear hblk
    by_cases h : k = j
    · subst h
      have hq : (codeAt k == codeAt k) = true := by simp
      go_wp2
      go_ret
      refine ⟨rfl, ?_⟩
      have hb0 : Below w.heap.size w wr := ((Below.refl _ _).alloc (Nat.le_refl _) _).trans (hbel.mono (by omega))
      exact hb0.alloc hb0.size _
    · have hq := codes_apart k hlt j hj h
      go_wp2
      go_roundw
      case rel => exact ⟨k + 1, by omega, by go_num, hbel.alloc (by omega) _, by simp; omega⟩
      case measure => simp [intOf]; omega
end Go.Proofs.PnB
