/-
  DERIVED. GIVEN WITH THE SEED: THE CARDS: each row of YtpdbepbhlalldaaGreatDoorRows.lean that lists a variable, with what it lists TIED to the program's text (the seventh form; the later family's looks); each row that meets fmt, with fmt's text TOLD by the authors' own Lean function (tested against real Go, not proved from fmt's source: count such statements apart). THE CARD IS WHAT COUNTS. Prove the row's statement (the work); the ties are given (YtpdbepbhlalldaaGreatDoorTie.lean); close each card by the builder's one call (the guide's Derived/Test/ToyasCard.lean, 'card_holds'). Laid BY PROGRAM, IN A SANDBOX (cutbox-door.mjs). By AI agents, Wed Nov 11 2026. No macro, syntax, notation, axiom, sorry.
-/
import Derived.Test.YtpdbepbhlalldaaGreatDoorRows
import GoSem.ClaimSeven
namespace Go.Proofs.YtpdbepbhlalldaaGreatDoor
namespace Rows

/-- THE TIED CARD OF 'entaillaw09.TermSubstitutes'. -/
def termSubstitutesCard : Claim7 := { stood := { row := termSubstitutesRow, standIns := [], harness := (true, "de2b4beee22c08c8570994d1f5946ba3ca7321749edbded79745a2023d950404"), looks := true }, kinds := [], alts := [], laidByText := true, laidKinds := [.data, .data, .data, .widerDeep, .data, .funcs], laidTests := true, laidLooks := .later }
def TermSubstitutesCardSaid : Prop := Claim7.holds Tryz.pinned (.plain (OpenSpec.ofChange termSubstitutesSpec)) termSubstitutesCard

/-- THE TIED CARD OF 'entaillaw09.TermQuantifies'. -/
def termQuantifiesCard : Claim7 := { stood := { row := termQuantifiesRow, standIns := [], harness := (true, "de2b4beee22c08c8570994d1f5946ba3ca7321749edbded79745a2023d950404"), looks := true }, kinds := [], alts := [], laidByText := true, laidKinds := [.data, .data, .data, .widerDeep, .data, .funcs], laidTests := true, laidLooks := .later }
def TermQuantifiesCardSaid : Prop := Claim7.holds Tryz.pinned (.plain (OpenSpec.ofChange termQuantifiesSpec)) termQuantifiesCard

/-- THE SECOND FORM's CARD OF 'entaillaw09.TermSubstitutes'. -/
def termSubstitutesUptoCard : Claim7 := { stood := { row := termSubstitutesUptoRow, standIns := [], harness := (true, "de2b4beee22c08c8570994d1f5946ba3ca7321749edbded79745a2023d950404"), looks := true }, kinds := [], alts := [], laidByText := true, laidKinds := [.data, .data, .data, .widerDeep, .data, .funcs], laidTests := true, laidLooks := .later }
def TermSubstitutesUptoCardSaid : Prop := Claim7.holds Tryz.pinned (.plain (OpenSpec.upto termSubstitutesSpec)) termSubstitutesUptoCard

/-- THE SECOND FORM's CARD OF 'entaillaw09.TermQuantifies'. -/
def termQuantifiesUptoCard : Claim7 := { stood := { row := termQuantifiesUptoRow, standIns := [], harness := (true, "de2b4beee22c08c8570994d1f5946ba3ca7321749edbded79745a2023d950404"), looks := true }, kinds := [], alts := [], laidByText := true, laidKinds := [.data, .data, .data, .widerDeep, .data, .funcs], laidTests := true, laidLooks := .later }
def TermQuantifiesUptoCardSaid : Prop := Claim7.holds Tryz.pinned (.plain (OpenSpec.upto termQuantifiesSpec)) termQuantifiesUptoCard
end Rows
end Go.Proofs.YtpdbepbhlalldaaGreatDoor
