/-
  DERIVED. GIVEN WITH THE SEED: THE CARDS: each row of YtapmaobjhilnfaaGreatDoorRows.lean that lists a variable, with what it lists TIED to the program's text (the seventh form; the later family's looks); each row that meets fmt, with fmt's text TOLD by the authors' own Lean function (tested against real Go, not proved from fmt's source: count such statements apart). THE CARD IS WHAT COUNTS. Prove the row's statement (the work); the ties are given (YtapmaobjhilnfaaGreatDoorTie.lean); close each card by the builder's one call (the guide's Derived/Test/ToyasCard.lean, 'card_holds'). Laid BY PROGRAM, IN A SANDBOX (cutbox-door.mjs). By AI agents, Wed Nov 11 2026. No macro, syntax, notation, axiom, sorry.
-/
import Derived.Test.YtapmaobjhilnfaaGreatDoorRows
import GoSem.ClaimSeven
namespace Go.Proofs.YtapmaobjhilnfaaGreatDoor
namespace Rows

/-- THE TIED CARD OF 'entaillaw09.TermEquals'. -/
def termEqualsCard : Claim7 := { stood := { row := termEqualsRow, standIns := [], harness := (true, "16b8b2fd03fb4bb080d5d21f5c6cb886b7a8d5bf5e4ef0120237c9145cca36e8"), looks := true }, kinds := [], alts := [], laidByText := true, laidKinds := [.data, .data, .data, .widerDeep, .data, .funcs], laidTests := true, laidLooks := .later }
def TermEqualsCardSaid : Prop := Claim7.holds Tryz.pinned (.plain (OpenSpec.ofChange termEqualsSpec)) termEqualsCard

/-- THE SECOND FORM's CARD OF 'entaillaw09.TermEquals'. -/
def termEqualsUptoCard : Claim7 := { stood := { row := termEqualsUptoRow, standIns := [], harness := (true, "16b8b2fd03fb4bb080d5d21f5c6cb886b7a8d5bf5e4ef0120237c9145cca36e8"), looks := true }, kinds := [], alts := [], laidByText := true, laidKinds := [.data, .data, .data, .widerDeep, .data, .funcs], laidTests := true, laidLooks := .later }
def TermEqualsUptoCardSaid : Prop := Claim7.holds Tryz.pinned (.plain (OpenSpec.upto termEqualsSpec)) termEqualsUptoCard
end Rows
end Go.Proofs.YtapmaobjhilnfaaGreatDoor
