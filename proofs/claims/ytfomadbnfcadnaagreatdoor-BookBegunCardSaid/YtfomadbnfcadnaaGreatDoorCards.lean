/-
  DERIVED. GIVEN WITH THE SEED: THE CARDS: each row of YtfomadbnfcadnaaGreatDoorRows.lean that lists a variable, with what it lists TIED to the program's text (the seventh form; the later family's looks); each row that meets fmt, with fmt's text TOLD by the authors' own Lean function (tested against real Go, not proved from fmt's source: count such statements apart). THE CARD IS WHAT COUNTS. Prove the row's statement (the work); the ties are given (YtfomadbnfcadnaaGreatDoorTie.lean); close each card by the builder's one call (the guide's Derived/Test/ToyasCard.lean, 'card_holds'). Laid BY PROGRAM, IN A SANDBOX (cutbox-door.mjs). By AI agents, Wed Nov 11 2026. No macro, syntax, notation, axiom, sorry.
-/
import Derived.Test.YtfomadbnfcadnaaGreatDoorRows
import GoSem.ClaimSeven
namespace Go.Proofs.YtfomadbnfcadnaaGreatDoor
namespace Rows

/-- THE TIED CARD OF 'fipplelaw12.BookBooks'. -/
def bookBooksCard : Claim7 := { stood := { row := bookBooksRow, standIns := [], harness := (true, "aca19589f76a0abf78e56b14b6c9dc20ee79324b8f290dc07242b08bb0bbb2bc"), looks := true }, kinds := [], alts := [], laidByText := true, laidKinds := [.data, .data, .data, .data, .sentinel, .sentinel, .pinned], laidTests := true, laidLooks := .later }
def BookBooksCardSaid : Prop := Claim7.holds Tryz.pinned (.plain (OpenSpec.ofChange bookBooksSpec)) bookBooksCard

/-- THE TIED CARD OF 'fipplelaw12.BookSums'. -/
def bookSumsCard : Claim7 := { stood := { row := bookSumsRow, standIns := [], harness := (true, "aca19589f76a0abf78e56b14b6c9dc20ee79324b8f290dc07242b08bb0bbb2bc"), looks := true }, kinds := [], alts := [], laidByText := true, laidKinds := [.data, .data, .data, .data, .sentinel, .sentinel, .pinned], laidTests := true, laidLooks := .later }
def BookSumsCardSaid : Prop := Claim7.holds Tryz.pinned (.plain (OpenSpec.ofChange bookSumsSpec)) bookSumsCard

/-- THE TIED CARD OF 'fipplelaw12.BookPaths'. -/
def bookPathsCard : Claim7 := { stood := { row := bookPathsRow, standIns := [], harness := (true, "aca19589f76a0abf78e56b14b6c9dc20ee79324b8f290dc07242b08bb0bbb2bc"), looks := true }, kinds := [], alts := [], laidByText := true, laidKinds := [.data, .data, .data, .data, .sentinel, .sentinel, .pinned], laidTests := true, laidLooks := .later }
def BookPathsCardSaid : Prop := Claim7.holds Tryz.pinned (.plain (OpenSpec.ofChange bookPathsSpec)) bookPathsCard

/-- THE TIED CARD OF 'fipplelaw12.BookGrows'. -/
def bookGrowsCard : Claim7 := { stood := { row := bookGrowsRow, standIns := [], harness := (true, "aca19589f76a0abf78e56b14b6c9dc20ee79324b8f290dc07242b08bb0bbb2bc"), looks := true }, kinds := [], alts := [], laidByText := true, laidKinds := [.data, .data, .data, .data, .sentinel, .sentinel, .pinned], laidTests := true, laidLooks := .later }
def BookGrowsCardSaid : Prop := Claim7.holds Tryz.pinned (.plain (OpenSpec.ofChange bookGrowsSpec)) bookGrowsCard

/-- THE TIED CARD OF 'fipplelaw12.BookFiles'. -/
def bookFilesCard : Claim7 := { stood := { row := bookFilesRow, standIns := [], harness := (true, "aca19589f76a0abf78e56b14b6c9dc20ee79324b8f290dc07242b08bb0bbb2bc"), looks := true }, kinds := [], alts := [], laidByText := true, laidKinds := [.data, .data, .data, .data, .sentinel, .sentinel, .pinned], laidTests := true, laidLooks := .later }
def BookFilesCardSaid : Prop := Claim7.holds Tryz.pinned (.plain (OpenSpec.ofChange bookFilesSpec)) bookFilesCard

/-- THE TIED CARD OF 'fipplelaw12.BookProved'. -/
def bookProvedCard : Claim7 := { stood := { row := bookProvedRow, standIns := [], harness := (true, "aca19589f76a0abf78e56b14b6c9dc20ee79324b8f290dc07242b08bb0bbb2bc"), looks := true }, kinds := [], alts := [], laidByText := true, laidKinds := [.data, .data, .data, .data, .sentinel, .sentinel, .pinned], laidTests := true, laidLooks := .later }
def BookProvedCardSaid : Prop := Claim7.holds Tryz.pinned (.plain (OpenSpec.ofChange bookProvedSpec)) bookProvedCard

/-- THE TIED CARD OF 'fipplelaw12.BookPlace'. -/
def bookPlaceCard : Claim7 := { stood := { row := bookPlaceRow, standIns := [], harness := (true, "aca19589f76a0abf78e56b14b6c9dc20ee79324b8f290dc07242b08bb0bbb2bc"), looks := true }, kinds := [], alts := [], laidByText := true, laidKinds := [.data, .data, .data, .data, .sentinel, .sentinel, .pinned], laidTests := true, laidLooks := .later }
def BookPlaceCardSaid : Prop := Claim7.holds Tryz.pinned (.plain (OpenSpec.ofChange bookPlaceSpec)) bookPlaceCard

/-- THE TIED CARD OF 'fipplelaw12.BookGrown'. -/
def bookGrownCard : Claim7 := { stood := { row := bookGrownRow, standIns := [], harness := (true, "aca19589f76a0abf78e56b14b6c9dc20ee79324b8f290dc07242b08bb0bbb2bc"), looks := true }, kinds := [], alts := [], laidByText := true, laidKinds := [.data, .data, .data, .data, .sentinel, .sentinel, .pinned], laidTests := true, laidLooks := .later }
def BookGrownCardSaid : Prop := Claim7.holds Tryz.pinned (.plain (OpenSpec.ofChange bookGrownSpec)) bookGrownCard

/-- THE TIED CARD OF 'fipplelaw12.BookBegun'. -/
def bookBegunCard : Claim7 := { stood := { row := bookBegunRow, standIns := [], harness := (true, "aca19589f76a0abf78e56b14b6c9dc20ee79324b8f290dc07242b08bb0bbb2bc"), looks := true }, kinds := [], alts := [], laidByText := true, laidKinds := [.data, .data, .data, .data, .sentinel, .sentinel, .pinned], laidTests := true, laidLooks := .later }
def BookBegunCardSaid : Prop := Claim7.holds Tryz.pinned (.plain (OpenSpec.ofChange bookBegunSpec)) bookBegunCard

/-- THE TIED CARD OF 'fipplelaw12.BookBalanced'. -/
def bookBalancedCard : Claim7 := { stood := { row := bookBalancedRow, standIns := [], harness := (true, "aca19589f76a0abf78e56b14b6c9dc20ee79324b8f290dc07242b08bb0bbb2bc"), looks := true }, kinds := [], alts := [], laidByText := true, laidKinds := [.data, .data, .data, .data, .sentinel, .sentinel, .pinned], laidTests := true, laidLooks := .later }
def BookBalancedCardSaid : Prop := Claim7.holds Tryz.pinned (.plain (OpenSpec.ofChange bookBalancedSpec)) bookBalancedCard

/-- THE TIED CARD OF 'fipplelaw12.BookJoined'. -/
def bookJoinedCard : Claim7 := { stood := { row := bookJoinedRow, standIns := [], harness := (true, "aca19589f76a0abf78e56b14b6c9dc20ee79324b8f290dc07242b08bb0bbb2bc"), looks := true }, kinds := [], alts := [], laidByText := true, laidKinds := [.data, .data, .data, .data, .sentinel, .sentinel, .pinned], laidTests := true, laidLooks := .later }
def BookJoinedCardSaid : Prop := Claim7.holds Tryz.pinned (.plain (OpenSpec.ofChange bookJoinedSpec)) bookJoinedCard

/-- THE TIED CARD OF 'fipplelaw12.BookFiled'. -/
def bookFiledCard : Claim7 := { stood := { row := bookFiledRow, standIns := [], harness := (true, "aca19589f76a0abf78e56b14b6c9dc20ee79324b8f290dc07242b08bb0bbb2bc"), looks := true }, kinds := [], alts := [], laidByText := true, laidKinds := [.data, .data, .data, .data, .sentinel, .sentinel, .pinned], laidTests := true, laidLooks := .later }
def BookFiledCardSaid : Prop := Claim7.holds Tryz.pinned (.plain (OpenSpec.ofChange bookFiledSpec)) bookFiledCard

/-- THE TIED CARD OF 'fipplelaw12.BookChanged'. -/
def bookChangedCard : Claim7 := { stood := { row := bookChangedRow, standIns := [], harness := (true, "aca19589f76a0abf78e56b14b6c9dc20ee79324b8f290dc07242b08bb0bbb2bc"), looks := true }, kinds := [], alts := [], laidByText := true, laidKinds := [.data, .data, .data, .data, .sentinel, .sentinel, .pinned], laidTests := true, laidLooks := .later }
def BookChangedCardSaid : Prop := Claim7.holds Tryz.pinned (.plain (OpenSpec.ofChange bookChangedSpec)) bookChangedCard

/-- THE TIED CARD OF 'fipplelaw12.BookKnown'. -/
def bookKnownCard : Claim7 := { stood := { row := bookKnownRow, standIns := [], harness := (true, "aca19589f76a0abf78e56b14b6c9dc20ee79324b8f290dc07242b08bb0bbb2bc"), looks := true }, kinds := [], alts := [], laidByText := true, laidKinds := [.data, .data, .data, .data, .sentinel, .sentinel, .pinned], laidTests := true, laidLooks := .later }
def BookKnownCardSaid : Prop := Claim7.holds Tryz.pinned (.plain (OpenSpec.ofChange bookKnownSpec)) bookKnownCard

/-- THE SECOND FORM's CARD OF 'fipplelaw12.BookBooks'. -/
def bookBooksUptoCard : Claim7 := { stood := { row := bookBooksUptoRow, standIns := [], harness := (true, "aca19589f76a0abf78e56b14b6c9dc20ee79324b8f290dc07242b08bb0bbb2bc"), looks := true }, kinds := [], alts := [], laidByText := true, laidKinds := [.data, .data, .data, .data, .sentinel, .sentinel, .pinned], laidTests := true, laidLooks := .later }
def BookBooksUptoCardSaid : Prop := Claim7.holds Tryz.pinned (.plain (OpenSpec.upto bookBooksSpec)) bookBooksUptoCard

/-- THE SECOND FORM's CARD OF 'fipplelaw12.BookSums'. -/
def bookSumsUptoCard : Claim7 := { stood := { row := bookSumsUptoRow, standIns := [], harness := (true, "aca19589f76a0abf78e56b14b6c9dc20ee79324b8f290dc07242b08bb0bbb2bc"), looks := true }, kinds := [], alts := [], laidByText := true, laidKinds := [.data, .data, .data, .data, .sentinel, .sentinel, .pinned], laidTests := true, laidLooks := .later }
def BookSumsUptoCardSaid : Prop := Claim7.holds Tryz.pinned (.plain (OpenSpec.upto bookSumsSpec)) bookSumsUptoCard

/-- THE SECOND FORM's CARD OF 'fipplelaw12.BookPaths'. -/
def bookPathsUptoCard : Claim7 := { stood := { row := bookPathsUptoRow, standIns := [], harness := (true, "aca19589f76a0abf78e56b14b6c9dc20ee79324b8f290dc07242b08bb0bbb2bc"), looks := true }, kinds := [], alts := [], laidByText := true, laidKinds := [.data, .data, .data, .data, .sentinel, .sentinel, .pinned], laidTests := true, laidLooks := .later }
def BookPathsUptoCardSaid : Prop := Claim7.holds Tryz.pinned (.plain (OpenSpec.upto bookPathsSpec)) bookPathsUptoCard

/-- THE SECOND FORM's CARD OF 'fipplelaw12.BookGrows'. -/
def bookGrowsUptoCard : Claim7 := { stood := { row := bookGrowsUptoRow, standIns := [], harness := (true, "aca19589f76a0abf78e56b14b6c9dc20ee79324b8f290dc07242b08bb0bbb2bc"), looks := true }, kinds := [], alts := [], laidByText := true, laidKinds := [.data, .data, .data, .data, .sentinel, .sentinel, .pinned], laidTests := true, laidLooks := .later }
def BookGrowsUptoCardSaid : Prop := Claim7.holds Tryz.pinned (.plain (OpenSpec.upto bookGrowsSpec)) bookGrowsUptoCard

/-- THE SECOND FORM's CARD OF 'fipplelaw12.BookFiles'. -/
def bookFilesUptoCard : Claim7 := { stood := { row := bookFilesUptoRow, standIns := [], harness := (true, "aca19589f76a0abf78e56b14b6c9dc20ee79324b8f290dc07242b08bb0bbb2bc"), looks := true }, kinds := [], alts := [], laidByText := true, laidKinds := [.data, .data, .data, .data, .sentinel, .sentinel, .pinned], laidTests := true, laidLooks := .later }
def BookFilesUptoCardSaid : Prop := Claim7.holds Tryz.pinned (.plain (OpenSpec.upto bookFilesSpec)) bookFilesUptoCard

/-- THE SECOND FORM's CARD OF 'fipplelaw12.BookProved'. -/
def bookProvedUptoCard : Claim7 := { stood := { row := bookProvedUptoRow, standIns := [], harness := (true, "aca19589f76a0abf78e56b14b6c9dc20ee79324b8f290dc07242b08bb0bbb2bc"), looks := true }, kinds := [], alts := [], laidByText := true, laidKinds := [.data, .data, .data, .data, .sentinel, .sentinel, .pinned], laidTests := true, laidLooks := .later }
def BookProvedUptoCardSaid : Prop := Claim7.holds Tryz.pinned (.plain (OpenSpec.upto bookProvedSpec)) bookProvedUptoCard

/-- THE SECOND FORM's CARD OF 'fipplelaw12.BookPlace'. -/
def bookPlaceUptoCard : Claim7 := { stood := { row := bookPlaceUptoRow, standIns := [], harness := (true, "aca19589f76a0abf78e56b14b6c9dc20ee79324b8f290dc07242b08bb0bbb2bc"), looks := true }, kinds := [], alts := [], laidByText := true, laidKinds := [.data, .data, .data, .data, .sentinel, .sentinel, .pinned], laidTests := true, laidLooks := .later }
def BookPlaceUptoCardSaid : Prop := Claim7.holds Tryz.pinned (.plain (OpenSpec.upto bookPlaceSpec)) bookPlaceUptoCard

/-- THE SECOND FORM's CARD OF 'fipplelaw12.BookGrown'. -/
def bookGrownUptoCard : Claim7 := { stood := { row := bookGrownUptoRow, standIns := [], harness := (true, "aca19589f76a0abf78e56b14b6c9dc20ee79324b8f290dc07242b08bb0bbb2bc"), looks := true }, kinds := [], alts := [], laidByText := true, laidKinds := [.data, .data, .data, .data, .sentinel, .sentinel, .pinned], laidTests := true, laidLooks := .later }
def BookGrownUptoCardSaid : Prop := Claim7.holds Tryz.pinned (.plain (OpenSpec.upto bookGrownSpec)) bookGrownUptoCard

/-- THE SECOND FORM's CARD OF 'fipplelaw12.BookBegun'. -/
def bookBegunUptoCard : Claim7 := { stood := { row := bookBegunUptoRow, standIns := [], harness := (true, "aca19589f76a0abf78e56b14b6c9dc20ee79324b8f290dc07242b08bb0bbb2bc"), looks := true }, kinds := [], alts := [], laidByText := true, laidKinds := [.data, .data, .data, .data, .sentinel, .sentinel, .pinned], laidTests := true, laidLooks := .later }
def BookBegunUptoCardSaid : Prop := Claim7.holds Tryz.pinned (.plain (OpenSpec.upto bookBegunSpec)) bookBegunUptoCard

/-- THE SECOND FORM's CARD OF 'fipplelaw12.BookBalanced'. -/
def bookBalancedUptoCard : Claim7 := { stood := { row := bookBalancedUptoRow, standIns := [], harness := (true, "aca19589f76a0abf78e56b14b6c9dc20ee79324b8f290dc07242b08bb0bbb2bc"), looks := true }, kinds := [], alts := [], laidByText := true, laidKinds := [.data, .data, .data, .data, .sentinel, .sentinel, .pinned], laidTests := true, laidLooks := .later }
def BookBalancedUptoCardSaid : Prop := Claim7.holds Tryz.pinned (.plain (OpenSpec.upto bookBalancedSpec)) bookBalancedUptoCard

/-- THE SECOND FORM's CARD OF 'fipplelaw12.BookJoined'. -/
def bookJoinedUptoCard : Claim7 := { stood := { row := bookJoinedUptoRow, standIns := [], harness := (true, "aca19589f76a0abf78e56b14b6c9dc20ee79324b8f290dc07242b08bb0bbb2bc"), looks := true }, kinds := [], alts := [], laidByText := true, laidKinds := [.data, .data, .data, .data, .sentinel, .sentinel, .pinned], laidTests := true, laidLooks := .later }
def BookJoinedUptoCardSaid : Prop := Claim7.holds Tryz.pinned (.plain (OpenSpec.upto bookJoinedSpec)) bookJoinedUptoCard

/-- THE SECOND FORM's CARD OF 'fipplelaw12.BookFiled'. -/
def bookFiledUptoCard : Claim7 := { stood := { row := bookFiledUptoRow, standIns := [], harness := (true, "aca19589f76a0abf78e56b14b6c9dc20ee79324b8f290dc07242b08bb0bbb2bc"), looks := true }, kinds := [], alts := [], laidByText := true, laidKinds := [.data, .data, .data, .data, .sentinel, .sentinel, .pinned], laidTests := true, laidLooks := .later }
def BookFiledUptoCardSaid : Prop := Claim7.holds Tryz.pinned (.plain (OpenSpec.upto bookFiledSpec)) bookFiledUptoCard

/-- THE SECOND FORM's CARD OF 'fipplelaw12.BookChanged'. -/
def bookChangedUptoCard : Claim7 := { stood := { row := bookChangedUptoRow, standIns := [], harness := (true, "aca19589f76a0abf78e56b14b6c9dc20ee79324b8f290dc07242b08bb0bbb2bc"), looks := true }, kinds := [], alts := [], laidByText := true, laidKinds := [.data, .data, .data, .data, .sentinel, .sentinel, .pinned], laidTests := true, laidLooks := .later }
def BookChangedUptoCardSaid : Prop := Claim7.holds Tryz.pinned (.plain (OpenSpec.upto bookChangedSpec)) bookChangedUptoCard

/-- THE SECOND FORM's CARD OF 'fipplelaw12.BookKnown'. -/
def bookKnownUptoCard : Claim7 := { stood := { row := bookKnownUptoRow, standIns := [], harness := (true, "aca19589f76a0abf78e56b14b6c9dc20ee79324b8f290dc07242b08bb0bbb2bc"), looks := true }, kinds := [], alts := [], laidByText := true, laidKinds := [.data, .data, .data, .data, .sentinel, .sentinel, .pinned], laidTests := true, laidLooks := .later }
def BookKnownUptoCardSaid : Prop := Claim7.holds Tryz.pinned (.plain (OpenSpec.upto bookKnownSpec)) bookKnownUptoCard
end Rows
end Go.Proofs.YtfomadbnfcadnaaGreatDoor
