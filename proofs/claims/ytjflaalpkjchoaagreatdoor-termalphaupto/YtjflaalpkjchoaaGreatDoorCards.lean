/-
  DERIVED. GIVEN WITH THE SEED: THE CARDS: each row of YtjflaalpkjchoaaGreatDoorRows.lean that lists a variable, with what it lists TIED to the program's text (the seventh form; the later family's looks); each row that meets fmt, with fmt's text TOLD by the authors' own Lean function (tested against real Go, not proved from fmt's source: count such statements apart). THE CARD IS WHAT COUNTS. Prove the row's statement (the work); the ties are given (YtjflaalpkjchoaaGreatDoorTie.lean); close each card by the builder's one call (the guide's Derived/Test/ToyasCard.lean, 'card_holds'). Laid BY PROGRAM, IN A SANDBOX (cutbox-door.mjs). By AI agents, Wed Nov 11 2026. No macro, syntax, notation, axiom, sorry.
-/
import Derived.Test.YtjflaalpkjchoaaGreatDoorRows
import GoSem.ClaimSeven
namespace Go.Proofs.YtjflaalpkjchoaaGreatDoor
namespace Rows

/-- THE TIED CARD OF 'entaillaw09.TermAlpha'. -/
def termAlphaCard : Claim7 := { stood := { row := termAlphaRow, standIns := [], harness := (true, "0333ab9648334eece7a31328f4097fa1f2a97cd7965b190f2368d5164004a7b0"), looks := true }, kinds := [], alts := [], laidByText := true, laidKinds := [.data, .data, .data, .widerDeep, .data, .funcs], laidTests := true, laidLooks := .later }
def TermAlphaCardSaid : Prop := Claim7.holds Tryz.pinned (.plain (OpenSpec.ofChange termAlphaSpec)) termAlphaCard

/-- THE TIED CARD OF 'entaillaw09.TermSignatures'. -/
def termSignaturesCard : Claim7 := { stood := { row := termSignaturesRow, standIns := [], harness := (true, "0333ab9648334eece7a31328f4097fa1f2a97cd7965b190f2368d5164004a7b0"), looks := true }, kinds := [], alts := [], laidByText := true, laidKinds := [.data, .data, .data, .widerDeep, .data, .funcs], laidTests := true, laidLooks := .later }
def TermSignaturesCardSaid : Prop := Claim7.holds Tryz.pinned (.plain (OpenSpec.ofChange termSignaturesSpec)) termSignaturesCard

/-- THE SECOND FORM's CARD OF 'entaillaw09.TermAlpha'. -/
def termAlphaUptoCard : Claim7 := { stood := { row := termAlphaUptoRow, standIns := [], harness := (true, "0333ab9648334eece7a31328f4097fa1f2a97cd7965b190f2368d5164004a7b0"), looks := true }, kinds := [], alts := [], laidByText := true, laidKinds := [.data, .data, .data, .widerDeep, .data, .funcs], laidTests := true, laidLooks := .later }
def TermAlphaUptoCardSaid : Prop := Claim7.holds Tryz.pinned (.plain (OpenSpec.upto termAlphaSpec)) termAlphaUptoCard

/-- THE SECOND FORM's CARD OF 'entaillaw09.TermSignatures'. -/
def termSignaturesUptoCard : Claim7 := { stood := { row := termSignaturesUptoRow, standIns := [], harness := (true, "0333ab9648334eece7a31328f4097fa1f2a97cd7965b190f2368d5164004a7b0"), looks := true }, kinds := [], alts := [], laidByText := true, laidKinds := [.data, .data, .data, .widerDeep, .data, .funcs], laidTests := true, laidLooks := .later }
def TermSignaturesUptoCardSaid : Prop := Claim7.holds Tryz.pinned (.plain (OpenSpec.upto termSignaturesSpec)) termSignaturesUptoCard
end Rows
end Go.Proofs.YtjflaalpkjchoaaGreatDoor
