/- Laws of lists and of the closure of a function's calls: what lets a great program's closed facts be shown in parts. No condition. -/
import Derived.Test.YtdbpcmddocbfiaaGreatDoorRows
import Derived.JoinedOf
namespace Go.Proofs.YtdbpcmddocbfiaaGreatDoor
open Go

/-- a list mapped is its parts mapped. -/
theorem map_part {α β : Type} (f : α → β) (l : List α) (a n : Nat) : (l.drop a).map f = ((l.drop a).take n).map f ++ (l.drop (a + n)).map f := by
  rw [← List.drop_drop, ← List.map_append, List.take_append_drop]
theorem any_part {α : Type} (f : α → Bool) (l : List α) (a n : Nat) : (l.drop a).any f = (((l.drop a).take n).any f || (l.drop (a + n)).any f) := by
  rw [← List.drop_drop, ← List.any_append, List.take_append_drop]
theorem filterMap_part {α β : Type} (f : α → Option β) (l : List α) (a n : Nat) : (l.drop a).filterMap f = ((l.drop a).take n).filterMap f ++ (l.drop (a + n)).filterMap f := by
  rw [← List.drop_drop, ← List.filterMap_append, List.take_append_drop]
theorem flatMap_part {α β : Type} (f : α → List β) (l : List α) (a n : Nat) : (l.drop a).flatMap f = ((l.drop a).take n).flatMap f ++ (l.drop (a + n)).flatMap f := by
  rw [← List.drop_drop, ← List.flatMap_append, List.take_append_drop]
/-- the closure's run over a table of what each function leads to. -/
def closTab (tab : List (List Nat)) : (fuel : Nat) → (todo seen : List Nat) → List Nat
  | 0, _, seen => seen.reverse
  | _, [], seen => seen.reverse
  | n + 1, f :: todo, seen => if seen.contains f then closTab tab n todo seen else closTab tab n ((tab[f]?).getD [] ++ todo) (f :: seen)
theorem closureVia_tab {P : Program} {tab : List (List Nat)} (h : P.funcs.toList.map P.leadsTo = tab) : ∀ n todo seen, P.closureVia n todo seen = closTab tab n todo seen
  | 0, _, seen => by simp [Program.closureVia, closTab]
  | n + 1, [], seen => by simp [Program.closureVia, closTab]
  | n + 1, f :: todo, seen => by
    have e : (P.funcs[f]?).elim [] P.leadsTo = (tab[f]?).getD [] := by
      rw [← h, List.getElem?_map, Array.getElem?_toList]
      cases P.funcs[f]? <;> rfl
    simp only [Program.closureVia, closTab]
    rw [e, closureVia_tab h n, closureVia_tab h n]
theorem closure_tab {P : Program} {tab : List (List Nat)} (h : P.funcs.toList.map P.leadsTo = tab) (f : FuncId) : P.closure f = closTab tab (1 + (tab.map fun l => l.length + 1).sum) [f] [] := by
  unfold Program.closure
  rw [closureVia_tab h, ← h, List.map_map]
  rfl
end Go.Proofs.YtdbpcmddocbfiaaGreatDoor
