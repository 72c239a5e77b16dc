/-
  DERIVED. GIVEN WITH THE SEED: THE CARDS: each row of YtgbbgkcjpbdepaaGreatDoorRows.lean that lists a variable, with what it lists TIED to the program's text (the seventh form; the later family's looks); each row that meets fmt, with fmt's text TOLD by the authors' own Lean function (tested against real Go, not proved from fmt's source: count such statements apart). THE CARD IS WHAT COUNTS. Prove the row's statement (the work); the ties are given (YtgbbgkcjpbdepaaGreatDoorTie.lean); close each card by the builder's one call (the guide's Derived/Test/ToyasCard.lean, 'card_holds'). Laid BY PROGRAM, IN A SANDBOX (cutbox-door.mjs). By AI agents, Wed Nov 11 2026. No macro, syntax, notation, axiom, sorry.
-/
import Derived.Test.YtgbbgkcjpbdepaaGreatDoorRows
import GoSem.ClaimSeven
namespace Go.Proofs.YtgbbgkcjpbdepaaGreatDoor
namespace Rows

/-- THE TIED CARD OF 'fippletop.TopSearchedBook'. -/
def topSearchedBookCard : Claim7 := { stood := { row := topSearchedBookRow, standIns := [], harness := (true, "e32f339bf7c4341ef11170f85f33366a6b4f175f6f199aca6bf5bd8e3ca39e8f"), looks := true }, kinds := [], alts := [], laidByText := true, laidKinds := [.data, .data, .data, .pinned, .data, .sentinel, .sentinel], laidTests := true, laidLooks := .later }
def TopSearchedBookCardSaid : Prop := Claim7.holds Tryz.pinned (.plain (OpenSpec.ofChange topSearchedBookSpec)) topSearchedBookCard

/-- THE SECOND FORM's CARD OF 'fippletop.TopSearchedBook'. -/
def topSearchedBookUptoCard : Claim7 := { stood := { row := topSearchedBookUptoRow, standIns := [], harness := (true, "e32f339bf7c4341ef11170f85f33366a6b4f175f6f199aca6bf5bd8e3ca39e8f"), looks := true }, kinds := [], alts := [], laidByText := true, laidKinds := [.data, .data, .data, .pinned, .data, .sentinel, .sentinel], laidTests := true, laidLooks := .later }
def TopSearchedBookUptoCardSaid : Prop := Claim7.holds Tryz.pinned (.plain (OpenSpec.upto topSearchedBookSpec)) topSearchedBookUptoCard
end Rows
end Go.Proofs.YtgbbgkcjpbdepaaGreatDoor
