/-
  DERIVED. GIVEN WITH THE SEED: THE CARDS: each row of YtkpjkgfaepidaaaDoorRows.lean that lists a variable, with what it lists TIED to the program's text (the seventh form; the later family's looks); each row that meets fmt, with fmt's text TOLD by the authors' own Lean function (tested against real Go, not proved from fmt's source: count such statements apart). THE CARD IS WHAT COUNTS. Prove the row's statement (the work); the ties are given (YtkpjkgfaepidaaaDoorTie.lean); close each card by the builder's one call (the guide's Derived/Test/ToyasCard.lean, 'card_holds'). Laid BY PROGRAM, IN A SANDBOX (cutbox-door.mjs). By AI agents, Wed Nov 11 2026. No macro, syntax, notation, axiom, sorry.
-/
import Derived.Test.YtkpjkgfaepidaaaDoorRows
import GoSem.ClaimSeven
namespace Go.Proofs.YtkpjkgfaepidaaaDoor
namespace Rows

/-- THE TIED CARD OF 'dowserlaw28.RequestUnlike'. -/
def requestUnlikeCard : Claim7 := { stood := { row := requestUnlikeRow, standIns := [], harness := (true, "3ae3b78cd3494d5358bf9415d5257f0d91971bf29726b6161b68f70f5770d180"), looks := false }, kinds := [], alts := [], laidByText := true, laidKinds := [.data], laidTests := true, laidLooks := .later }
def RequestUnlikeCardSaid : Prop := Claim7.holds Tryd.pinned (.plain (OpenSpec.ofChange requestUnlikeSpec)) requestUnlikeCard

/-- THE TIED CARD OF 'dowserlaw28.RequestParses'. -/
def requestParsesCard : Claim7 := { stood := { row := requestParsesRow, standIns := [], harness := (true, "3ae3b78cd3494d5358bf9415d5257f0d91971bf29726b6161b68f70f5770d180"), looks := false }, kinds := [], alts := [], laidByText := true, laidKinds := [.data], laidTests := true, laidLooks := .later }
def RequestParsesCardSaid : Prop := Claim7.holds Tryd.pinned (.plain (OpenSpec.ofChange requestParsesSpec)) requestParsesCard

/-- THE TIED CARD OF 'dowserlaw28.RequestAnswers'. -/
def requestAnswersCard : Claim7 := { stood := { row := requestAnswersRow, standIns := [], harness := (true, "3ae3b78cd3494d5358bf9415d5257f0d91971bf29726b6161b68f70f5770d180"), looks := false }, kinds := [], alts := [], laidByText := true, laidKinds := [.data], laidTests := true, laidLooks := .later }
def RequestAnswersCardSaid : Prop := Claim7.holds Tryd.pinned (.plain (OpenSpec.ofChange requestAnswersSpec)) requestAnswersCard

/-- THE TIED CARD OF 'dowserlaw28.RequestReads'. -/
def requestReadsCard : Claim7 := { stood := { row := requestReadsRow, standIns := [], harness := (true, "3ae3b78cd3494d5358bf9415d5257f0d91971bf29726b6161b68f70f5770d180"), looks := false }, kinds := [], alts := [], laidByText := true, laidKinds := [.data], laidTests := true, laidLooks := .later }
def RequestReadsCardSaid : Prop := Claim7.holds Tryd.pinned (.plain (OpenSpec.ofChange requestReadsSpec)) requestReadsCard

/-- THE SECOND FORM's CARD OF 'dowserlaw28.RequestUnlike'. -/
def requestUnlikeUptoCard : Claim7 := { stood := { row := requestUnlikeUptoRow, standIns := [], harness := (true, "3ae3b78cd3494d5358bf9415d5257f0d91971bf29726b6161b68f70f5770d180"), looks := false }, kinds := [], alts := [], laidByText := true, laidKinds := [.data], laidTests := true, laidLooks := .later }
def RequestUnlikeUptoCardSaid : Prop := Claim7.holds Tryd.pinned (.plain (OpenSpec.upto requestUnlikeSpec)) requestUnlikeUptoCard

/-- THE SECOND FORM's CARD OF 'dowserlaw28.RequestParses'. -/
def requestParsesUptoCard : Claim7 := { stood := { row := requestParsesUptoRow, standIns := [], harness := (true, "3ae3b78cd3494d5358bf9415d5257f0d91971bf29726b6161b68f70f5770d180"), looks := false }, kinds := [], alts := [], laidByText := true, laidKinds := [.data], laidTests := true, laidLooks := .later }
def RequestParsesUptoCardSaid : Prop := Claim7.holds Tryd.pinned (.plain (OpenSpec.upto requestParsesSpec)) requestParsesUptoCard

/-- THE SECOND FORM's CARD OF 'dowserlaw28.RequestAnswers'. -/
def requestAnswersUptoCard : Claim7 := { stood := { row := requestAnswersUptoRow, standIns := [], harness := (true, "3ae3b78cd3494d5358bf9415d5257f0d91971bf29726b6161b68f70f5770d180"), looks := false }, kinds := [], alts := [], laidByText := true, laidKinds := [.data], laidTests := true, laidLooks := .later }
def RequestAnswersUptoCardSaid : Prop := Claim7.holds Tryd.pinned (.plain (OpenSpec.upto requestAnswersSpec)) requestAnswersUptoCard

/-- THE SECOND FORM's CARD OF 'dowserlaw28.RequestReads'. -/
def requestReadsUptoCard : Claim7 := { stood := { row := requestReadsUptoRow, standIns := [], harness := (true, "3ae3b78cd3494d5358bf9415d5257f0d91971bf29726b6161b68f70f5770d180"), looks := false }, kinds := [], alts := [], laidByText := true, laidKinds := [.data], laidTests := true, laidLooks := .later }
def RequestReadsUptoCardSaid : Prop := Claim7.holds Tryd.pinned (.plain (OpenSpec.upto requestReadsSpec)) requestReadsUptoCard
end Rows
end Go.Proofs.YtkpjkgfaepidaaaDoor
