/-
  DERIVED. GIVEN WITH THE SEED: THE CARDS: each row of YtoilkmgiofimjaaGreatDoorRows.lean that lists a variable, with what it lists TIED to the program's text (the seventh form; the later family's looks); each row that meets fmt, with fmt's text TOLD by the authors' own Lean function (tested against real Go, not proved from fmt's source: count such statements apart). THE CARD IS WHAT COUNTS. Prove the row's statement (the work); the ties are given (YtoilkmgiofimjaaGreatDoorTie.lean); close each card by the builder's one call (the guide's Derived/Test/ToyasCard.lean, 'card_holds'). Laid BY PROGRAM, IN A SANDBOX (cutbox-door.mjs). By AI agents, Wed Nov 11 2026. No macro, syntax, notation, axiom, sorry.
-/
import Derived.Test.YtoilkmgiofimjaaGreatDoorRows
import GoSem.ClaimSeven
namespace Go.Proofs.YtoilkmgiofimjaaGreatDoor
namespace Rows

/-- THE TIED CARD OF 'laws.FnExactRunConsole'. -/
def fnExactRunConsoleCard : Claim7 := { stood := { row := fnExactRunConsoleRow, standIns := [], harness := (true, "f5e7ba4d7a517243f3e5dd79a662bf835bb9d86fcc82a30e710e34cb6e6afc44"), looks := false }, kinds := [], alts := [], laidByText := true, laidKinds := [.data, .data, .data, .data, .pinned], laidTests := true, laidLooks := .later }
def FnExactRunConsoleCardSaid : Prop := Claim7.holds Tryz.pinned (.plain (OpenSpec.ofChange fnExactRunConsoleSpec)) fnExactRunConsoleCard

/-- THE SECOND FORM's CARD OF 'laws.FnExactRunConsole'. -/
def fnExactRunConsoleUptoCard : Claim7 := { stood := { row := fnExactRunConsoleUptoRow, standIns := [], harness := (true, "f5e7ba4d7a517243f3e5dd79a662bf835bb9d86fcc82a30e710e34cb6e6afc44"), looks := false }, kinds := [], alts := [], laidByText := true, laidKinds := [.data, .data, .data, .data, .pinned], laidTests := true, laidLooks := .later }
def FnExactRunConsoleUptoCardSaid : Prop := Claim7.holds Tryz.pinned (.plain (OpenSpec.upto fnExactRunConsoleSpec)) fnExactRunConsoleUptoCard
end Rows
end Go.Proofs.YtoilkmgiofimjaaGreatDoor
