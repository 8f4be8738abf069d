/-
  DERIVED. GIVEN WITH THE SEED: THE CARDS: each row of YtdbpcmddocbfiaaGreatDoorRows.lean that lists a variable, with what it lists TIED to the program's text (the seventh form; the later family's looks); each row that meets fmt, with fmt's text TOLD by the authors' own Lean function (tested against real Go, not proved from fmt's source: count such statements apart). THE CARD IS WHAT COUNTS. Prove the row's statement (the work); the ties are given (YtdbpcmddocbfiaaGreatDoorTie.lean); close each card by the builder's one call (the guide's Derived/Test/ToyasCard.lean, 'card_holds'). Laid BY PROGRAM, IN A SANDBOX (cutbox-door.mjs). By AI agents, Wed Nov 11 2026. No macro, syntax, notation, axiom, sorry.
-/
import Derived.Test.YtdbpcmddocbfiaaGreatDoorRows
import GoSem.ClaimSeven
namespace Go.Proofs.YtdbpcmddocbfiaaGreatDoor
namespace Rows

/-- THE TIED CARD OF 'kindredlaw26.PlayNames'. -/
def playNamesCard : Claim7 := { stood := { row := playNamesRow, standIns := [], harness := (true, "b0b49e4a2362db649a43e1e037f094acde902a5cafd0eaadebe8bef60b2579c9"), looks := true }, kinds := [], alts := [], laidByText := true, laidKinds := [.pinned, .data, .data, .sentinel, .sentinel, .data, .data, .data, .data, .data], laidTests := true, laidLooks := .later }
def PlayNamesCardSaid : Prop := Claim7.holds Tryz.pinned (.plain (OpenSpec.ofChange playNamesSpec)) playNamesCard

/-- THE SECOND FORM's CARD OF 'kindredlaw26.PlayNames'. -/
def playNamesUptoCard : Claim7 := { stood := { row := playNamesUptoRow, standIns := [], harness := (true, "b0b49e4a2362db649a43e1e037f094acde902a5cafd0eaadebe8bef60b2579c9"), looks := true }, kinds := [], alts := [], laidByText := true, laidKinds := [.pinned, .data, .data, .sentinel, .sentinel, .data, .data, .data, .data, .data], laidTests := true, laidLooks := .later }
def PlayNamesUptoCardSaid : Prop := Claim7.holds Tryz.pinned (.plain (OpenSpec.upto playNamesSpec)) playNamesUptoCard
end Rows
end Go.Proofs.YtdbpcmddocbfiaaGreatDoor
