/-
  DERIVED. GIVEN WITH THE SEED: THE CARDS: each row of YtfaadlfaimhbbaaGreatDoorRows.lean that lists a variable, with what it lists TIED to the program's text (the seventh form; the later family's looks); each row that meets fmt, with fmt's text TOLD by the authors' own Lean function (tested against real Go, not proved from fmt's source: count such statements apart). THE CARD IS WHAT COUNTS. Prove the row's statement (the work); the ties are given (YtfaadlfaimhbbaaGreatDoorTie.lean); close each card by the builder's one call (the guide's Derived/Test/ToyasCard.lean, 'card_holds'). Laid BY PROGRAM, IN A SANDBOX (cutbox-door.mjs). By AI agents, Wed Nov 11 2026. No macro, syntax, notation, axiom, sorry.
-/
import Derived.Test.YtfaadlfaimhbbaaGreatDoorRows
import GoSem.ClaimSeven
namespace Go.Proofs.YtfaadlfaimhbbaaGreatDoor
namespace Rows

/-- THE TIED CARD OF 'wicketgatelaw2.PhraseBrackets'. -/
def phraseBracketsCard : Claim7 := { stood := { row := phraseBracketsRow, standIns := [], harness := (true, "fa6af53d01d5d5067e85f8e9598b7492bdaa6e74c4128785f0a629322cd1b3f6"), looks := true }, kinds := [], alts := [], laidByText := true, laidKinds := [.data, .data, .data, .data, .sentinel, .sentinel, .pinned], laidTests := true, laidLooks := .later }
def PhraseBracketsCardSaid : Prop := Claim7.holds Tryz.pinned (.plain (OpenSpec.ofChange phraseBracketsSpec)) phraseBracketsCard

/-- THE TIED CARD OF 'wicketgatelaw2.PhraseLeft'. -/
def phraseLeftCard : Claim7 := { stood := { row := phraseLeftRow, standIns := [], harness := (true, "fa6af53d01d5d5067e85f8e9598b7492bdaa6e74c4128785f0a629322cd1b3f6"), looks := true }, kinds := [], alts := [], laidByText := true, laidKinds := [.data, .data, .data, .data, .sentinel, .sentinel, .pinned], laidTests := true, laidLooks := .later }
def PhraseLeftCardSaid : Prop := Claim7.holds Tryz.pinned (.plain (OpenSpec.ofChange phraseLeftSpec)) phraseLeftCard

/-- THE TIED CARD OF 'wicketgatelaw2.PhraseParses'. -/
def phraseParsesCard : Claim7 := { stood := { row := phraseParsesRow, standIns := [], harness := (true, "fa6af53d01d5d5067e85f8e9598b7492bdaa6e74c4128785f0a629322cd1b3f6"), looks := true }, kinds := [], alts := [], laidByText := true, laidKinds := [.data, .data, .data, .data, .handle, .sentinel, .sentinel, .pinned], laidTests := true, laidLooks := .later }
def PhraseParsesCardSaid : Prop := Claim7.holds Tryz.pinned (.plain (OpenSpec.ofChange phraseParsesSpec)) phraseParsesCard

/-- THE TIED CARD OF 'wicketgatelaw2.PhraseSoon'. -/
def phraseSoonCard : Claim7 := { stood := { row := phraseSoonRow, standIns := [], harness := (true, "fa6af53d01d5d5067e85f8e9598b7492bdaa6e74c4128785f0a629322cd1b3f6"), looks := true }, kinds := [], alts := [], laidByText := true, laidKinds := [.data, .data, .data, .data, .handle, .sentinel, .sentinel, .pinned], laidTests := true, laidLooks := .later }
def PhraseSoonCardSaid : Prop := Claim7.holds Tryz.pinned (.plain (OpenSpec.ofChange phraseSoonSpec)) phraseSoonCard

/-- THE TIED CARD OF 'wicketgatelaw2.PhraseBack'. -/
def phraseBackCard : Claim7 := { stood := { row := phraseBackRow, standIns := [], harness := (true, "fa6af53d01d5d5067e85f8e9598b7492bdaa6e74c4128785f0a629322cd1b3f6"), looks := true }, kinds := [], alts := [], laidByText := true, laidKinds := [.data, .data, .data, .data, .sentinel, .sentinel, .pinned], laidTests := true, laidLooks := .later }
def PhraseBackCardSaid : Prop := Claim7.holds Tryz.pinned (.plain (OpenSpec.ofChange phraseBackSpec)) phraseBackCard

/-- THE TIED CARD OF 'wicketgatelaw2.PhraseAgain'. -/
def phraseAgainCard : Claim7 := { stood := { row := phraseAgainRow, standIns := [], harness := (true, "fa6af53d01d5d5067e85f8e9598b7492bdaa6e74c4128785f0a629322cd1b3f6"), looks := true }, kinds := [], alts := [], laidByText := true, laidKinds := [.data, .data, .data, .data, .sentinel, .sentinel, .pinned], laidTests := true, laidLooks := .later }
def PhraseAgainCardSaid : Prop := Claim7.holds Tryz.pinned (.plain (OpenSpec.ofChange phraseAgainSpec)) phraseAgainCard

/-- THE TIED CARD OF 'wicketgatelaw2.PhraseNumbers'. -/
def phraseNumbersCard : Claim7 := { stood := { row := phraseNumbersRow, standIns := [], harness := (true, "fa6af53d01d5d5067e85f8e9598b7492bdaa6e74c4128785f0a629322cd1b3f6"), looks := true }, kinds := [], alts := [], laidByText := true, laidKinds := [.data, .data, .data, .data, .sentinel, .sentinel, .pinned], laidTests := true, laidLooks := .later }
def PhraseNumbersCardSaid : Prop := Claim7.holds Tryz.pinned (.plain (OpenSpec.ofChange phraseNumbersSpec)) phraseNumbersCard

/-- THE SECOND FORM's CARD OF 'wicketgatelaw2.PhraseBrackets'. -/
def phraseBracketsUptoCard : Claim7 := { stood := { row := phraseBracketsUptoRow, standIns := [], harness := (true, "fa6af53d01d5d5067e85f8e9598b7492bdaa6e74c4128785f0a629322cd1b3f6"), looks := true }, kinds := [], alts := [], laidByText := true, laidKinds := [.data, .data, .data, .data, .sentinel, .sentinel, .pinned], laidTests := true, laidLooks := .later }
def PhraseBracketsUptoCardSaid : Prop := Claim7.holds Tryz.pinned (.plain (OpenSpec.upto phraseBracketsSpec)) phraseBracketsUptoCard

/-- THE SECOND FORM's CARD OF 'wicketgatelaw2.PhraseLeft'. -/
def phraseLeftUptoCard : Claim7 := { stood := { row := phraseLeftUptoRow, standIns := [], harness := (true, "fa6af53d01d5d5067e85f8e9598b7492bdaa6e74c4128785f0a629322cd1b3f6"), looks := true }, kinds := [], alts := [], laidByText := true, laidKinds := [.data, .data, .data, .data, .sentinel, .sentinel, .pinned], laidTests := true, laidLooks := .later }
def PhraseLeftUptoCardSaid : Prop := Claim7.holds Tryz.pinned (.plain (OpenSpec.upto phraseLeftSpec)) phraseLeftUptoCard

/-- THE SECOND FORM's CARD OF 'wicketgatelaw2.PhraseParses'. -/
def phraseParsesUptoCard : Claim7 := { stood := { row := phraseParsesUptoRow, standIns := [], harness := (true, "fa6af53d01d5d5067e85f8e9598b7492bdaa6e74c4128785f0a629322cd1b3f6"), looks := true }, kinds := [], alts := [], laidByText := true, laidKinds := [.data, .data, .data, .data, .handle, .sentinel, .sentinel, .pinned], laidTests := true, laidLooks := .later }
def PhraseParsesUptoCardSaid : Prop := Claim7.holds Tryz.pinned (.plain (OpenSpec.upto phraseParsesSpec)) phraseParsesUptoCard

/-- THE SECOND FORM's CARD OF 'wicketgatelaw2.PhraseSoon'. -/
def phraseSoonUptoCard : Claim7 := { stood := { row := phraseSoonUptoRow, standIns := [], harness := (true, "fa6af53d01d5d5067e85f8e9598b7492bdaa6e74c4128785f0a629322cd1b3f6"), looks := true }, kinds := [], alts := [], laidByText := true, laidKinds := [.data, .data, .data, .data, .handle, .sentinel, .sentinel, .pinned], laidTests := true, laidLooks := .later }
def PhraseSoonUptoCardSaid : Prop := Claim7.holds Tryz.pinned (.plain (OpenSpec.upto phraseSoonSpec)) phraseSoonUptoCard

/-- THE SECOND FORM's CARD OF 'wicketgatelaw2.PhraseBack'. -/
def phraseBackUptoCard : Claim7 := { stood := { row := phraseBackUptoRow, standIns := [], harness := (true, "fa6af53d01d5d5067e85f8e9598b7492bdaa6e74c4128785f0a629322cd1b3f6"), looks := true }, kinds := [], alts := [], laidByText := true, laidKinds := [.data, .data, .data, .data, .sentinel, .sentinel, .pinned], laidTests := true, laidLooks := .later }
def PhraseBackUptoCardSaid : Prop := Claim7.holds Tryz.pinned (.plain (OpenSpec.upto phraseBackSpec)) phraseBackUptoCard

/-- THE SECOND FORM's CARD OF 'wicketgatelaw2.PhraseAgain'. -/
def phraseAgainUptoCard : Claim7 := { stood := { row := phraseAgainUptoRow, standIns := [], harness := (true, "fa6af53d01d5d5067e85f8e9598b7492bdaa6e74c4128785f0a629322cd1b3f6"), looks := true }, kinds := [], alts := [], laidByText := true, laidKinds := [.data, .data, .data, .data, .sentinel, .sentinel, .pinned], laidTests := true, laidLooks := .later }
def PhraseAgainUptoCardSaid : Prop := Claim7.holds Tryz.pinned (.plain (OpenSpec.upto phraseAgainSpec)) phraseAgainUptoCard

/-- THE SECOND FORM's CARD OF 'wicketgatelaw2.PhraseNumbers'. -/
def phraseNumbersUptoCard : Claim7 := { stood := { row := phraseNumbersUptoRow, standIns := [], harness := (true, "fa6af53d01d5d5067e85f8e9598b7492bdaa6e74c4128785f0a629322cd1b3f6"), looks := true }, kinds := [], alts := [], laidByText := true, laidKinds := [.data, .data, .data, .data, .sentinel, .sentinel, .pinned], laidTests := true, laidLooks := .later }
def PhraseNumbersUptoCardSaid : Prop := Claim7.holds Tryz.pinned (.plain (OpenSpec.upto phraseNumbersSpec)) phraseNumbersUptoCard
end Rows
end Go.Proofs.YtfaadlfaimhbbaaGreatDoor
