/-
  DERIVED. GIVEN WITH THE SEED: THE CARDS: each row of YtdmchkjlgppagaaGreatDoorRows.lean that lists a variable, with what it lists TIED to the program's text (the seventh form; the later family's looks); each row that meets fmt, with fmt's text TOLD by the authors' own Lean function (tested against real Go, not proved from fmt's source: count such statements apart). THE CARD IS WHAT COUNTS. Prove the row's statement (the work); the ties are given (YtdmchkjlgppagaaGreatDoorTie.lean); close each card by the builder's one call (the guide's Derived/Test/ToyasCard.lean, 'card_holds'). Laid BY PROGRAM, IN A SANDBOX (cutbox-door.mjs). By AI agents, Wed Nov 11 2026. No macro, syntax, notation, axiom, sorry.
-/
import Derived.Test.YtdmchkjlgppagaaGreatDoorRows
import GoSem.ClaimSeven
namespace Go.Proofs.YtdmchkjlgppagaaGreatDoor
namespace Rows

/-- THE TIED CARD OF 'foregonelaw03.ParsePrecedence'. -/
def parsePrecedenceCard : Claim7 := { stood := { row := parsePrecedenceRow, standIns := [], harness := (true, "f60f8bc6447b6fd7b86aaed5c394ab12ac582edb5393f2441269803d538808ba"), looks := true }, kinds := [], alts := [], laidByText := true, laidKinds := [.data, .listed, .data, .pinned], laidTests := true, laidLooks := .later }
def ParsePrecedenceCardSaid : Prop := Claim7.holds Tryz.pinned (.plain (OpenSpec.ofChange parsePrecedenceSpec)) parsePrecedenceCard

/-- THE TIED CARD OF 'foregonelaw03.ParseErrors'. -/
def parseErrorsCard : Claim7 := { stood := { row := parseErrorsRow, standIns := [], harness := (true, "f60f8bc6447b6fd7b86aaed5c394ab12ac582edb5393f2441269803d538808ba"), looks := true }, kinds := [], alts := [], laidByText := true, laidKinds := [.data, .listed, .data, .pinned], laidTests := true, laidLooks := .later }
def ParseErrorsCardSaid : Prop := Claim7.holds Tryz.pinned (.plain (OpenSpec.ofChange parseErrorsSpec)) parseErrorsCard

/-- THE TIED CARD OF 'foregonelaw03.ParsePart'. -/
def parsePartCard : Claim7 := { stood := { row := parsePartRow, standIns := [], harness := (true, "f60f8bc6447b6fd7b86aaed5c394ab12ac582edb5393f2441269803d538808ba"), looks := true }, kinds := [], alts := [], laidByText := true, laidKinds := [.data, .listed, .data, .pinned], laidTests := true, laidLooks := .later }
def ParsePartCardSaid : Prop := Claim7.holds Tryz.pinned (.plain (OpenSpec.ofChange parsePartSpec)) parsePartCard

/-- THE TIED CARD OF 'foregonelaw03.ParseTokens'. -/
def parseTokensCard : Claim7 := { stood := { row := parseTokensRow, standIns := [], harness := (true, "f60f8bc6447b6fd7b86aaed5c394ab12ac582edb5393f2441269803d538808ba"), looks := true }, kinds := [], alts := [], laidByText := true, laidKinds := [.data, .listed, .data, .pinned], laidTests := true, laidLooks := .later }
def ParseTokensCardSaid : Prop := Claim7.holds Tryz.pinned (.plain (OpenSpec.ofChange parseTokensSpec)) parseTokensCard

/-- THE TIED CARD OF 'foregonelaw03.ParseTexts'. -/
def parseTextsCard : Claim7 := { stood := { row := parseTextsRow, standIns := [], harness := (true, "f60f8bc6447b6fd7b86aaed5c394ab12ac582edb5393f2441269803d538808ba"), looks := true }, kinds := [], alts := [], laidByText := true, laidKinds := [.data, .listed, .data, .pinned], laidTests := true, laidLooks := .later }
def ParseTextsCardSaid : Prop := Claim7.holds Tryz.pinned (.plain (OpenSpec.ofChange parseTextsSpec)) parseTextsCard

/-- THE TIED CARD OF 'foregonelaw03.ParseBrackets'. -/
def parseBracketsCard : Claim7 := { stood := { row := parseBracketsRow, standIns := [], harness := (true, "f60f8bc6447b6fd7b86aaed5c394ab12ac582edb5393f2441269803d538808ba"), looks := true }, kinds := [], alts := [], laidByText := true, laidKinds := [.data, .listed, .data, .pinned], laidTests := true, laidLooks := .later }
def ParseBracketsCardSaid : Prop := Claim7.holds Tryz.pinned (.plain (OpenSpec.ofChange parseBracketsSpec)) parseBracketsCard

/-- THE TIED CARD OF 'foregonelaw03.ParseLayout'. -/
def parseLayoutCard : Claim7 := { stood := { row := parseLayoutRow, standIns := [], harness := (true, "f60f8bc6447b6fd7b86aaed5c394ab12ac582edb5393f2441269803d538808ba"), looks := true }, kinds := [], alts := [], laidByText := true, laidKinds := [.data, .listed, .data, .pinned], laidTests := true, laidLooks := .later }
def ParseLayoutCardSaid : Prop := Claim7.holds Tryz.pinned (.plain (OpenSpec.ofChange parseLayoutSpec)) parseLayoutCard

/-- THE TIED CARD OF 'foregonelaw03.ParseSpellings'. -/
def parseSpellingsCard : Claim7 := { stood := { row := parseSpellingsRow, standIns := [], harness := (true, "f60f8bc6447b6fd7b86aaed5c394ab12ac582edb5393f2441269803d538808ba"), looks := true }, kinds := [], alts := [], laidByText := true, laidKinds := [.data, .listed, .data, .pinned], laidTests := true, laidLooks := .later }
def ParseSpellingsCardSaid : Prop := Claim7.holds Tryz.pinned (.plain (OpenSpec.ofChange parseSpellingsSpec)) parseSpellingsCard

/-- THE TIED CARD OF 'foregonelaw03.ParseUnits'. -/
def parseUnitsCard : Claim7 := { stood := { row := parseUnitsRow, standIns := [], harness := (true, "f60f8bc6447b6fd7b86aaed5c394ab12ac582edb5393f2441269803d538808ba"), looks := true }, kinds := [], alts := [], laidByText := true, laidKinds := [.data, .listed, .data, .pinned], laidTests := true, laidLooks := .later }
def ParseUnitsCardSaid : Prop := Claim7.holds Tryz.pinned (.plain (OpenSpec.ofChange parseUnitsSpec)) parseUnitsCard

/-- THE TIED CARD OF 'foregonelaw03.ParseColumns'. -/
def parseColumnsCard : Claim7 := { stood := { row := parseColumnsRow, standIns := [], harness := (true, "f60f8bc6447b6fd7b86aaed5c394ab12ac582edb5393f2441269803d538808ba"), looks := true }, kinds := [], alts := [], laidByText := true, laidKinds := [.data, .listed, .data, .pinned], laidTests := true, laidLooks := .later }
def ParseColumnsCardSaid : Prop := Claim7.holds Tryz.pinned (.plain (OpenSpec.ofChange parseColumnsSpec)) parseColumnsCard

/-- THE TIED CARD OF 'foregonelaw03.ParseFormed'. -/
def parseFormedCard : Claim7 := { stood := { row := parseFormedRow, standIns := [], harness := (true, "f60f8bc6447b6fd7b86aaed5c394ab12ac582edb5393f2441269803d538808ba"), looks := true }, kinds := [], alts := [], laidByText := true, laidKinds := [.data, .listed, .data, .pinned], laidTests := true, laidLooks := .later }
def ParseFormedCardSaid : Prop := Claim7.holds Tryz.pinned (.plain (OpenSpec.ofChange parseFormedSpec)) parseFormedCard

/-- THE TIED CARD OF 'foregonelaw03.ParseTrees'. -/
def parseTreesCard : Claim7 := { stood := { row := parseTreesRow, standIns := [], harness := (true, "f60f8bc6447b6fd7b86aaed5c394ab12ac582edb5393f2441269803d538808ba"), looks := true }, kinds := [], alts := [], laidByText := true, laidKinds := [.data, .listed, .data, .pinned], laidTests := true, laidLooks := .later }
def ParseTreesCardSaid : Prop := Claim7.holds Tryz.pinned (.plain (OpenSpec.ofChange parseTreesSpec)) parseTreesCard

/-- THE SECOND FORM's CARD OF 'foregonelaw03.ParsePrecedence'. -/
def parsePrecedenceUptoCard : Claim7 := { stood := { row := parsePrecedenceUptoRow, standIns := [], harness := (true, "f60f8bc6447b6fd7b86aaed5c394ab12ac582edb5393f2441269803d538808ba"), looks := true }, kinds := [], alts := [], laidByText := true, laidKinds := [.data, .listed, .data, .pinned], laidTests := true, laidLooks := .later }
def ParsePrecedenceUptoCardSaid : Prop := Claim7.holds Tryz.pinned (.plain (OpenSpec.upto parsePrecedenceSpec)) parsePrecedenceUptoCard

/-- THE SECOND FORM's CARD OF 'foregonelaw03.ParseErrors'. -/
def parseErrorsUptoCard : Claim7 := { stood := { row := parseErrorsUptoRow, standIns := [], harness := (true, "f60f8bc6447b6fd7b86aaed5c394ab12ac582edb5393f2441269803d538808ba"), looks := true }, kinds := [], alts := [], laidByText := true, laidKinds := [.data, .listed, .data, .pinned], laidTests := true, laidLooks := .later }
def ParseErrorsUptoCardSaid : Prop := Claim7.holds Tryz.pinned (.plain (OpenSpec.upto parseErrorsSpec)) parseErrorsUptoCard

/-- THE SECOND FORM's CARD OF 'foregonelaw03.ParsePart'. -/
def parsePartUptoCard : Claim7 := { stood := { row := parsePartUptoRow, standIns := [], harness := (true, "f60f8bc6447b6fd7b86aaed5c394ab12ac582edb5393f2441269803d538808ba"), looks := true }, kinds := [], alts := [], laidByText := true, laidKinds := [.data, .listed, .data, .pinned], laidTests := true, laidLooks := .later }
def ParsePartUptoCardSaid : Prop := Claim7.holds Tryz.pinned (.plain (OpenSpec.upto parsePartSpec)) parsePartUptoCard

/-- THE SECOND FORM's CARD OF 'foregonelaw03.ParseTokens'. -/
def parseTokensUptoCard : Claim7 := { stood := { row := parseTokensUptoRow, standIns := [], harness := (true, "f60f8bc6447b6fd7b86aaed5c394ab12ac582edb5393f2441269803d538808ba"), looks := true }, kinds := [], alts := [], laidByText := true, laidKinds := [.data, .listed, .data, .pinned], laidTests := true, laidLooks := .later }
def ParseTokensUptoCardSaid : Prop := Claim7.holds Tryz.pinned (.plain (OpenSpec.upto parseTokensSpec)) parseTokensUptoCard

/-- THE SECOND FORM's CARD OF 'foregonelaw03.ParseTexts'. -/
def parseTextsUptoCard : Claim7 := { stood := { row := parseTextsUptoRow, standIns := [], harness := (true, "f60f8bc6447b6fd7b86aaed5c394ab12ac582edb5393f2441269803d538808ba"), looks := true }, kinds := [], alts := [], laidByText := true, laidKinds := [.data, .listed, .data, .pinned], laidTests := true, laidLooks := .later }
def ParseTextsUptoCardSaid : Prop := Claim7.holds Tryz.pinned (.plain (OpenSpec.upto parseTextsSpec)) parseTextsUptoCard

/-- THE SECOND FORM's CARD OF 'foregonelaw03.ParseBrackets'. -/
def parseBracketsUptoCard : Claim7 := { stood := { row := parseBracketsUptoRow, standIns := [], harness := (true, "f60f8bc6447b6fd7b86aaed5c394ab12ac582edb5393f2441269803d538808ba"), looks := true }, kinds := [], alts := [], laidByText := true, laidKinds := [.data, .listed, .data, .pinned], laidTests := true, laidLooks := .later }
def ParseBracketsUptoCardSaid : Prop := Claim7.holds Tryz.pinned (.plain (OpenSpec.upto parseBracketsSpec)) parseBracketsUptoCard

/-- THE SECOND FORM's CARD OF 'foregonelaw03.ParseLayout'. -/
def parseLayoutUptoCard : Claim7 := { stood := { row := parseLayoutUptoRow, standIns := [], harness := (true, "f60f8bc6447b6fd7b86aaed5c394ab12ac582edb5393f2441269803d538808ba"), looks := true }, kinds := [], alts := [], laidByText := true, laidKinds := [.data, .listed, .data, .pinned], laidTests := true, laidLooks := .later }
def ParseLayoutUptoCardSaid : Prop := Claim7.holds Tryz.pinned (.plain (OpenSpec.upto parseLayoutSpec)) parseLayoutUptoCard

/-- THE SECOND FORM's CARD OF 'foregonelaw03.ParseSpellings'. -/
def parseSpellingsUptoCard : Claim7 := { stood := { row := parseSpellingsUptoRow, standIns := [], harness := (true, "f60f8bc6447b6fd7b86aaed5c394ab12ac582edb5393f2441269803d538808ba"), looks := true }, kinds := [], alts := [], laidByText := true, laidKinds := [.data, .listed, .data, .pinned], laidTests := true, laidLooks := .later }
def ParseSpellingsUptoCardSaid : Prop := Claim7.holds Tryz.pinned (.plain (OpenSpec.upto parseSpellingsSpec)) parseSpellingsUptoCard

/-- THE SECOND FORM's CARD OF 'foregonelaw03.ParseUnits'. -/
def parseUnitsUptoCard : Claim7 := { stood := { row := parseUnitsUptoRow, standIns := [], harness := (true, "f60f8bc6447b6fd7b86aaed5c394ab12ac582edb5393f2441269803d538808ba"), looks := true }, kinds := [], alts := [], laidByText := true, laidKinds := [.data, .listed, .data, .pinned], laidTests := true, laidLooks := .later }
def ParseUnitsUptoCardSaid : Prop := Claim7.holds Tryz.pinned (.plain (OpenSpec.upto parseUnitsSpec)) parseUnitsUptoCard

/-- THE SECOND FORM's CARD OF 'foregonelaw03.ParseColumns'. -/
def parseColumnsUptoCard : Claim7 := { stood := { row := parseColumnsUptoRow, standIns := [], harness := (true, "f60f8bc6447b6fd7b86aaed5c394ab12ac582edb5393f2441269803d538808ba"), looks := true }, kinds := [], alts := [], laidByText := true, laidKinds := [.data, .listed, .data, .pinned], laidTests := true, laidLooks := .later }
def ParseColumnsUptoCardSaid : Prop := Claim7.holds Tryz.pinned (.plain (OpenSpec.upto parseColumnsSpec)) parseColumnsUptoCard

/-- THE SECOND FORM's CARD OF 'foregonelaw03.ParseFormed'. -/
def parseFormedUptoCard : Claim7 := { stood := { row := parseFormedUptoRow, standIns := [], harness := (true, "f60f8bc6447b6fd7b86aaed5c394ab12ac582edb5393f2441269803d538808ba"), looks := true }, kinds := [], alts := [], laidByText := true, laidKinds := [.data, .listed, .data, .pinned], laidTests := true, laidLooks := .later }
def ParseFormedUptoCardSaid : Prop := Claim7.holds Tryz.pinned (.plain (OpenSpec.upto parseFormedSpec)) parseFormedUptoCard

/-- THE SECOND FORM's CARD OF 'foregonelaw03.ParseTrees'. -/
def parseTreesUptoCard : Claim7 := { stood := { row := parseTreesUptoRow, standIns := [], harness := (true, "f60f8bc6447b6fd7b86aaed5c394ab12ac582edb5393f2441269803d538808ba"), looks := true }, kinds := [], alts := [], laidByText := true, laidKinds := [.data, .listed, .data, .pinned], laidTests := true, laidLooks := .later }
def ParseTreesUptoCardSaid : Prop := Claim7.holds Tryz.pinned (.plain (OpenSpec.upto parseTreesSpec)) parseTreesUptoCard
end Rows
end Go.Proofs.YtdmchkjlgppagaaGreatDoor
