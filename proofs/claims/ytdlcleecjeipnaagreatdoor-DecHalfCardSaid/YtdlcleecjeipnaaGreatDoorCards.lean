/-
  DERIVED. GIVEN WITH THE SEED: THE CARDS: each row of YtdlcleecjeipnaaGreatDoorRows.lean that lists a variable, with what it lists TIED to the program's text (the seventh form; the later family's looks); each row that meets fmt, with fmt's text TOLD by the authors' own Lean function (tested against real Go, not proved from fmt's source: count such statements apart). THE CARD IS WHAT COUNTS. Prove the row's statement (the work); the ties are given (YtdlcleecjeipnaaGreatDoorTie.lean); close each card by the builder's one call (the guide's Derived/Test/ToyasCard.lean, 'card_holds'). Laid BY PROGRAM, IN A SANDBOX (cutbox-door.mjs). By AI agents, Wed Nov 11 2026. No macro, syntax, notation, axiom, sorry.
-/
import Derived.Test.YtdlcleecjeipnaaGreatDoorRows
import GoSem.ClaimSeven
namespace Go.Proofs.YtdlcleecjeipnaaGreatDoor
namespace Rows

/-- THE TIED CARD OF 'rentierlaw2.DecHalf'. -/
def decHalfCard : Claim7 := { stood := { row := decHalfRow, standIns := [], harness := (true, "529aebcc668dd877cf8a8a12d4627aaddf1a9acf01a5c5f7074a43ad6c1fd003"), looks := true }, kinds := [], alts := [], laidByText := true, laidKinds := [.data, .data, .data, .data, .handle, .sentinel, .sentinel, .pinned], laidTests := true, laidLooks := .later }
def DecHalfCardSaid : Prop := Claim7.holds Tryz.pinned (.plain (OpenSpec.ofChange decHalfSpec)) decHalfCard

/-- THE TIED CARD OF 'rentierlaw2.DecGet'. -/
def decGetCard : Claim7 := { stood := { row := decGetRow, standIns := [], harness := (true, "529aebcc668dd877cf8a8a12d4627aaddf1a9acf01a5c5f7074a43ad6c1fd003"), looks := true }, kinds := [], alts := [], laidByText := true, laidKinds := [.data, .data, .data, .data, .handle, .sentinel, .sentinel, .pinned], laidTests := true, laidLooks := .later }
def DecGetCardSaid : Prop := Claim7.holds Tryz.pinned (.plain (OpenSpec.ofChange decGetSpec)) decGetCard

/-- THE TIED CARD OF 'rentierlaw2.DecPut'. -/
def decPutCard : Claim7 := { stood := { row := decPutRow, standIns := [], harness := (true, "529aebcc668dd877cf8a8a12d4627aaddf1a9acf01a5c5f7074a43ad6c1fd003"), looks := true }, kinds := [], alts := [], laidByText := true, laidKinds := [.data, .data, .data, .data, .handle, .sentinel, .sentinel, .pinned], laidTests := true, laidLooks := .later }
def DecPutCardSaid : Prop := Claim7.holds Tryz.pinned (.plain (OpenSpec.ofChange decPutSpec)) decPutCard

/-- THE TIED CARD OF 'rentierlaw2.RatText'. -/
def ratTextCard : Claim7 := { stood := { row := ratTextRow, standIns := [], harness := (true, "529aebcc668dd877cf8a8a12d4627aaddf1a9acf01a5c5f7074a43ad6c1fd003"), looks := true }, kinds := [], alts := [], laidByText := true, laidKinds := [.data, .data, .data, .data, .handle, .sentinel, .sentinel, .pinned], laidTests := true, laidLooks := .later }
def RatTextCardSaid : Prop := Claim7.holds Tryz.pinned (.plain (OpenSpec.ofChange ratTextSpec)) ratTextCard

/-- THE TIED CARD OF 'rentierlaw2.RatTexts'. -/
def ratTextsCard : Claim7 := { stood := { row := ratTextsRow, standIns := [], harness := (true, "529aebcc668dd877cf8a8a12d4627aaddf1a9acf01a5c5f7074a43ad6c1fd003"), looks := true }, kinds := [], alts := [], laidByText := true, laidKinds := [.data, .data, .data, .data, .handle, .sentinel, .sentinel, .pinned], laidTests := true, laidLooks := .later }
def RatTextsCardSaid : Prop := Claim7.holds Tryz.pinned (.plain (OpenSpec.ofChange ratTextsSpec)) ratTextsCard

/-- THE TIED CARD OF 'rentierlaw6.EasterKnown'. -/
def easterKnownCard : Claim7 := { stood := { row := easterKnownRow, standIns := [], harness := (true, "529aebcc668dd877cf8a8a12d4627aaddf1a9acf01a5c5f7074a43ad6c1fd003"), looks := true }, kinds := [], alts := [], laidByText := true, laidKinds := [.data, .data, .data, .data, .handle, .sentinel, .sentinel, .pinned], laidTests := true, laidLooks := .later }
def EasterKnownCardSaid : Prop := Claim7.holds Tryz.pinned (.plain (OpenSpec.ofChange easterKnownSpec)) easterKnownCard

/-- THE TIED CARD OF 'rentierlaw6.CalNew'. -/
def calNewCard : Claim7 := { stood := { row := calNewRow, standIns := [], harness := (true, "529aebcc668dd877cf8a8a12d4627aaddf1a9acf01a5c5f7074a43ad6c1fd003"), looks := true }, kinds := [], alts := [], laidByText := true, laidKinds := [.data, .data, .data, .data, .handle, .sentinel, .sentinel, .pinned], laidTests := true, laidLooks := .later }
def CalNewCardSaid : Prop := Claim7.holds Tryz.pinned (.plain (OpenSpec.ofChange calNewSpec)) calNewCard

/-- THE TIED CARD OF 'rentierlaw6.CalAll'. -/
def calAllCard : Claim7 := { stood := { row := calAllRow, standIns := [], harness := (true, "529aebcc668dd877cf8a8a12d4627aaddf1a9acf01a5c5f7074a43ad6c1fd003"), looks := true }, kinds := [], alts := [], laidByText := true, laidKinds := [.data, .data, .data, .data, .handle, .sentinel, .sentinel, .pinned], laidTests := true, laidLooks := .later }
def CalAllCardSaid : Prop := Claim7.holds Tryz.pinned (.plain (OpenSpec.ofChange calAllSpec)) calAllCard

/-- THE TIED CARD OF 'rentierlaw6.RollAll'. -/
def rollAllCard : Claim7 := { stood := { row := rollAllRow, standIns := [], harness := (true, "529aebcc668dd877cf8a8a12d4627aaddf1a9acf01a5c5f7074a43ad6c1fd003"), looks := true }, kinds := [], alts := [], laidByText := true, laidKinds := [.data, .data, .data, .data, .handle, .sentinel, .sentinel, .pinned], laidTests := true, laidLooks := .later }
def RollAllCardSaid : Prop := Claim7.holds Tryz.pinned (.plain (OpenSpec.ofChange rollAllSpec)) rollAllCard

/-- THE TIED CARD OF 'rentierlaw6.CountAll'. -/
def countAllCard : Claim7 := { stood := { row := countAllRow, standIns := [], harness := (true, "529aebcc668dd877cf8a8a12d4627aaddf1a9acf01a5c5f7074a43ad6c1fd003"), looks := true }, kinds := [], alts := [], laidByText := true, laidKinds := [.data, .data, .data, .data, .handle, .sentinel, .sentinel, .pinned], laidTests := true, laidLooks := .later }
def CountAllCardSaid : Prop := Claim7.holds Tryz.pinned (.plain (OpenSpec.ofChange countAllSpec)) countAllCard

/-- THE TIED CARD OF 'rentierlaw6.CalJoin'. -/
def calJoinCard : Claim7 := { stood := { row := calJoinRow, standIns := [], harness := (true, "529aebcc668dd877cf8a8a12d4627aaddf1a9acf01a5c5f7074a43ad6c1fd003"), looks := true }, kinds := [], alts := [], laidByText := true, laidKinds := [.data, .data, .data, .data, .handle, .sentinel, .sentinel, .pinned], laidTests := true, laidLooks := .later }
def CalJoinCardSaid : Prop := Claim7.holds Tryz.pinned (.plain (OpenSpec.ofChange calJoinSpec)) calJoinCard

/-- THE TIED CARD OF 'rentierlaw6.CountYear'. -/
def countYearCard : Claim7 := { stood := { row := countYearRow, standIns := [], harness := (true, "529aebcc668dd877cf8a8a12d4627aaddf1a9acf01a5c5f7074a43ad6c1fd003"), looks := true }, kinds := [], alts := [], laidByText := true, laidKinds := [.data, .data, .data, .data, .handle, .sentinel, .sentinel, .pinned], laidTests := true, laidLooks := .later }
def CountYearCardSaid : Prop := Claim7.holds Tryz.pinned (.plain (OpenSpec.ofChange countYearSpec)) countYearCard

/-- THE TIED CARD OF 'rentierlaw6.CalCount'. -/
def calCountCard : Claim7 := { stood := { row := calCountRow, standIns := [], harness := (true, "529aebcc668dd877cf8a8a12d4627aaddf1a9acf01a5c5f7074a43ad6c1fd003"), looks := true }, kinds := [], alts := [], laidByText := true, laidKinds := [.data, .data, .data, .data, .handle, .sentinel, .sentinel, .pinned], laidTests := true, laidLooks := .later }
def CalCountCardSaid : Prop := Claim7.holds Tryz.pinned (.plain (OpenSpec.ofChange calCountSpec)) calCountCard

/-- THE TIED CARD OF 'rentierlaw6.RollNear'. -/
def rollNearCard : Claim7 := { stood := { row := rollNearRow, standIns := [], harness := (true, "529aebcc668dd877cf8a8a12d4627aaddf1a9acf01a5c5f7074a43ad6c1fd003"), looks := true }, kinds := [], alts := [], laidByText := true, laidKinds := [.data, .data, .data, .data, .handle, .sentinel, .sentinel, .pinned], laidTests := true, laidLooks := .later }
def RollNearCardSaid : Prop := Claim7.holds Tryz.pinned (.plain (OpenSpec.ofChange rollNearSpec)) rollNearCard

/-- THE TIED CARD OF 'rentierlaw6.CountParts'. -/
def countPartsCard : Claim7 := { stood := { row := countPartsRow, standIns := [], harness := (true, "529aebcc668dd877cf8a8a12d4627aaddf1a9acf01a5c5f7074a43ad6c1fd003"), looks := true }, kinds := [], alts := [], laidByText := true, laidKinds := [.data, .data, .data, .data, .handle, .sentinel, .sentinel, .pinned], laidTests := true, laidLooks := .later }
def CountPartsCardSaid : Prop := Claim7.holds Tryz.pinned (.plain (OpenSpec.ofChange countPartsSpec)) countPartsCard

/-- THE TIED CARD OF 'rentierlaw6.RollLaws'. -/
def rollLawsCard : Claim7 := { stood := { row := rollLawsRow, standIns := [], harness := (true, "529aebcc668dd877cf8a8a12d4627aaddf1a9acf01a5c5f7074a43ad6c1fd003"), looks := true }, kinds := [], alts := [], laidByText := true, laidKinds := [.data, .data, .data, .data, .handle, .sentinel, .sentinel, .pinned], laidTests := true, laidLooks := .later }
def RollLawsCardSaid : Prop := Claim7.holds Tryz.pinned (.plain (OpenSpec.ofChange rollLawsSpec)) rollLawsCard

/-- THE TIED CARD OF 'rentierlaw6.CalBack'. -/
def calBackCard : Claim7 := { stood := { row := calBackRow, standIns := [], harness := (true, "529aebcc668dd877cf8a8a12d4627aaddf1a9acf01a5c5f7074a43ad6c1fd003"), looks := true }, kinds := [], alts := [], laidByText := true, laidKinds := [.data, .data, .data, .data, .handle, .sentinel, .sentinel, .pinned], laidTests := true, laidLooks := .later }
def CalBackCardSaid : Prop := Claim7.holds Tryz.pinned (.plain (OpenSpec.ofChange calBackSpec)) calBackCard

/-- THE TIED CARD OF 'rentierlaw6.CalAdd'. -/
def calAddCard : Claim7 := { stood := { row := calAddRow, standIns := [], harness := (true, "529aebcc668dd877cf8a8a12d4627aaddf1a9acf01a5c5f7074a43ad6c1fd003"), looks := true }, kinds := [], alts := [], laidByText := true, laidKinds := [.data, .data, .data, .data, .handle, .sentinel, .sentinel, .pinned], laidTests := true, laidLooks := .later }
def CalAddCardSaid : Prop := Claim7.holds Tryz.pinned (.plain (OpenSpec.ofChange calAddSpec)) calAddCard

/-- THE TIED CARD OF 'rentierlaw6.CountNone'. -/
def countNoneCard : Claim7 := { stood := { row := countNoneRow, standIns := [], harness := (true, "529aebcc668dd877cf8a8a12d4627aaddf1a9acf01a5c5f7074a43ad6c1fd003"), looks := true }, kinds := [], alts := [], laidByText := true, laidKinds := [.data, .data, .data, .data, .handle, .sentinel, .sentinel, .pinned], laidTests := true, laidLooks := .later }
def CountNoneCardSaid : Prop := Claim7.holds Tryz.pinned (.plain (OpenSpec.ofChange countNoneSpec)) countNoneCard

/-- THE TIED CARD OF 'rentierlaw6.DateKnown'. -/
def dateKnownCard : Claim7 := { stood := { row := dateKnownRow, standIns := [], harness := (true, "529aebcc668dd877cf8a8a12d4627aaddf1a9acf01a5c5f7074a43ad6c1fd003"), looks := true }, kinds := [], alts := [], laidByText := true, laidKinds := [.data, .data, .data, .data, .handle, .sentinel, .sentinel, .pinned], laidTests := true, laidLooks := .later }
def DateKnownCardSaid : Prop := Claim7.holds Tryz.pinned (.plain (OpenSpec.ofChange dateKnownSpec)) dateKnownCard

/-- THE SECOND FORM's CARD OF 'rentierlaw2.DecHalf'. -/
def decHalfUptoCard : Claim7 := { stood := { row := decHalfUptoRow, standIns := [], harness := (true, "529aebcc668dd877cf8a8a12d4627aaddf1a9acf01a5c5f7074a43ad6c1fd003"), looks := true }, kinds := [], alts := [], laidByText := true, laidKinds := [.data, .data, .data, .data, .handle, .sentinel, .sentinel, .pinned], laidTests := true, laidLooks := .later }
def DecHalfUptoCardSaid : Prop := Claim7.holds Tryz.pinned (.plain (OpenSpec.upto decHalfSpec)) decHalfUptoCard

/-- THE SECOND FORM's CARD OF 'rentierlaw2.DecGet'. -/
def decGetUptoCard : Claim7 := { stood := { row := decGetUptoRow, standIns := [], harness := (true, "529aebcc668dd877cf8a8a12d4627aaddf1a9acf01a5c5f7074a43ad6c1fd003"), looks := true }, kinds := [], alts := [], laidByText := true, laidKinds := [.data, .data, .data, .data, .handle, .sentinel, .sentinel, .pinned], laidTests := true, laidLooks := .later }
def DecGetUptoCardSaid : Prop := Claim7.holds Tryz.pinned (.plain (OpenSpec.upto decGetSpec)) decGetUptoCard

/-- THE SECOND FORM's CARD OF 'rentierlaw2.DecPut'. -/
def decPutUptoCard : Claim7 := { stood := { row := decPutUptoRow, standIns := [], harness := (true, "529aebcc668dd877cf8a8a12d4627aaddf1a9acf01a5c5f7074a43ad6c1fd003"), looks := true }, kinds := [], alts := [], laidByText := true, laidKinds := [.data, .data, .data, .data, .handle, .sentinel, .sentinel, .pinned], laidTests := true, laidLooks := .later }
def DecPutUptoCardSaid : Prop := Claim7.holds Tryz.pinned (.plain (OpenSpec.upto decPutSpec)) decPutUptoCard

/-- THE SECOND FORM's CARD OF 'rentierlaw2.RatText'. -/
def ratTextUptoCard : Claim7 := { stood := { row := ratTextUptoRow, standIns := [], harness := (true, "529aebcc668dd877cf8a8a12d4627aaddf1a9acf01a5c5f7074a43ad6c1fd003"), looks := true }, kinds := [], alts := [], laidByText := true, laidKinds := [.data, .data, .data, .data, .handle, .sentinel, .sentinel, .pinned], laidTests := true, laidLooks := .later }
def RatTextUptoCardSaid : Prop := Claim7.holds Tryz.pinned (.plain (OpenSpec.upto ratTextSpec)) ratTextUptoCard

/-- THE SECOND FORM's CARD OF 'rentierlaw2.RatTexts'. -/
def ratTextsUptoCard : Claim7 := { stood := { row := ratTextsUptoRow, standIns := [], harness := (true, "529aebcc668dd877cf8a8a12d4627aaddf1a9acf01a5c5f7074a43ad6c1fd003"), looks := true }, kinds := [], alts := [], laidByText := true, laidKinds := [.data, .data, .data, .data, .handle, .sentinel, .sentinel, .pinned], laidTests := true, laidLooks := .later }
def RatTextsUptoCardSaid : Prop := Claim7.holds Tryz.pinned (.plain (OpenSpec.upto ratTextsSpec)) ratTextsUptoCard

/-- THE SECOND FORM's CARD OF 'rentierlaw6.EasterKnown'. -/
def easterKnownUptoCard : Claim7 := { stood := { row := easterKnownUptoRow, standIns := [], harness := (true, "529aebcc668dd877cf8a8a12d4627aaddf1a9acf01a5c5f7074a43ad6c1fd003"), looks := true }, kinds := [], alts := [], laidByText := true, laidKinds := [.data, .data, .data, .data, .handle, .sentinel, .sentinel, .pinned], laidTests := true, laidLooks := .later }
def EasterKnownUptoCardSaid : Prop := Claim7.holds Tryz.pinned (.plain (OpenSpec.upto easterKnownSpec)) easterKnownUptoCard

/-- THE SECOND FORM's CARD OF 'rentierlaw6.CalNew'. -/
def calNewUptoCard : Claim7 := { stood := { row := calNewUptoRow, standIns := [], harness := (true, "529aebcc668dd877cf8a8a12d4627aaddf1a9acf01a5c5f7074a43ad6c1fd003"), looks := true }, kinds := [], alts := [], laidByText := true, laidKinds := [.data, .data, .data, .data, .handle, .sentinel, .sentinel, .pinned], laidTests := true, laidLooks := .later }
def CalNewUptoCardSaid : Prop := Claim7.holds Tryz.pinned (.plain (OpenSpec.upto calNewSpec)) calNewUptoCard

/-- THE SECOND FORM's CARD OF 'rentierlaw6.CalAll'. -/
def calAllUptoCard : Claim7 := { stood := { row := calAllUptoRow, standIns := [], harness := (true, "529aebcc668dd877cf8a8a12d4627aaddf1a9acf01a5c5f7074a43ad6c1fd003"), looks := true }, kinds := [], alts := [], laidByText := true, laidKinds := [.data, .data, .data, .data, .handle, .sentinel, .sentinel, .pinned], laidTests := true, laidLooks := .later }
def CalAllUptoCardSaid : Prop := Claim7.holds Tryz.pinned (.plain (OpenSpec.upto calAllSpec)) calAllUptoCard

/-- THE SECOND FORM's CARD OF 'rentierlaw6.RollAll'. -/
def rollAllUptoCard : Claim7 := { stood := { row := rollAllUptoRow, standIns := [], harness := (true, "529aebcc668dd877cf8a8a12d4627aaddf1a9acf01a5c5f7074a43ad6c1fd003"), looks := true }, kinds := [], alts := [], laidByText := true, laidKinds := [.data, .data, .data, .data, .handle, .sentinel, .sentinel, .pinned], laidTests := true, laidLooks := .later }
def RollAllUptoCardSaid : Prop := Claim7.holds Tryz.pinned (.plain (OpenSpec.upto rollAllSpec)) rollAllUptoCard

/-- THE SECOND FORM's CARD OF 'rentierlaw6.CountAll'. -/
def countAllUptoCard : Claim7 := { stood := { row := countAllUptoRow, standIns := [], harness := (true, "529aebcc668dd877cf8a8a12d4627aaddf1a9acf01a5c5f7074a43ad6c1fd003"), looks := true }, kinds := [], alts := [], laidByText := true, laidKinds := [.data, .data, .data, .data, .handle, .sentinel, .sentinel, .pinned], laidTests := true, laidLooks := .later }
def CountAllUptoCardSaid : Prop := Claim7.holds Tryz.pinned (.plain (OpenSpec.upto countAllSpec)) countAllUptoCard

/-- THE SECOND FORM's CARD OF 'rentierlaw6.CalJoin'. -/
def calJoinUptoCard : Claim7 := { stood := { row := calJoinUptoRow, standIns := [], harness := (true, "529aebcc668dd877cf8a8a12d4627aaddf1a9acf01a5c5f7074a43ad6c1fd003"), looks := true }, kinds := [], alts := [], laidByText := true, laidKinds := [.data, .data, .data, .data, .handle, .sentinel, .sentinel, .pinned], laidTests := true, laidLooks := .later }
def CalJoinUptoCardSaid : Prop := Claim7.holds Tryz.pinned (.plain (OpenSpec.upto calJoinSpec)) calJoinUptoCard

/-- THE SECOND FORM's CARD OF 'rentierlaw6.CountYear'. -/
def countYearUptoCard : Claim7 := { stood := { row := countYearUptoRow, standIns := [], harness := (true, "529aebcc668dd877cf8a8a12d4627aaddf1a9acf01a5c5f7074a43ad6c1fd003"), looks := true }, kinds := [], alts := [], laidByText := true, laidKinds := [.data, .data, .data, .data, .handle, .sentinel, .sentinel, .pinned], laidTests := true, laidLooks := .later }
def CountYearUptoCardSaid : Prop := Claim7.holds Tryz.pinned (.plain (OpenSpec.upto countYearSpec)) countYearUptoCard

/-- THE SECOND FORM's CARD OF 'rentierlaw6.CalCount'. -/
def calCountUptoCard : Claim7 := { stood := { row := calCountUptoRow, standIns := [], harness := (true, "529aebcc668dd877cf8a8a12d4627aaddf1a9acf01a5c5f7074a43ad6c1fd003"), looks := true }, kinds := [], alts := [], laidByText := true, laidKinds := [.data, .data, .data, .data, .handle, .sentinel, .sentinel, .pinned], laidTests := true, laidLooks := .later }
def CalCountUptoCardSaid : Prop := Claim7.holds Tryz.pinned (.plain (OpenSpec.upto calCountSpec)) calCountUptoCard

/-- THE SECOND FORM's CARD OF 'rentierlaw6.RollNear'. -/
def rollNearUptoCard : Claim7 := { stood := { row := rollNearUptoRow, standIns := [], harness := (true, "529aebcc668dd877cf8a8a12d4627aaddf1a9acf01a5c5f7074a43ad6c1fd003"), looks := true }, kinds := [], alts := [], laidByText := true, laidKinds := [.data, .data, .data, .data, .handle, .sentinel, .sentinel, .pinned], laidTests := true, laidLooks := .later }
def RollNearUptoCardSaid : Prop := Claim7.holds Tryz.pinned (.plain (OpenSpec.upto rollNearSpec)) rollNearUptoCard

/-- THE SECOND FORM's CARD OF 'rentierlaw6.CountParts'. -/
def countPartsUptoCard : Claim7 := { stood := { row := countPartsUptoRow, standIns := [], harness := (true, "529aebcc668dd877cf8a8a12d4627aaddf1a9acf01a5c5f7074a43ad6c1fd003"), looks := true }, kinds := [], alts := [], laidByText := true, laidKinds := [.data, .data, .data, .data, .handle, .sentinel, .sentinel, .pinned], laidTests := true, laidLooks := .later }
def CountPartsUptoCardSaid : Prop := Claim7.holds Tryz.pinned (.plain (OpenSpec.upto countPartsSpec)) countPartsUptoCard

/-- THE SECOND FORM's CARD OF 'rentierlaw6.RollLaws'. -/
def rollLawsUptoCard : Claim7 := { stood := { row := rollLawsUptoRow, standIns := [], harness := (true, "529aebcc668dd877cf8a8a12d4627aaddf1a9acf01a5c5f7074a43ad6c1fd003"), looks := true }, kinds := [], alts := [], laidByText := true, laidKinds := [.data, .data, .data, .data, .handle, .sentinel, .sentinel, .pinned], laidTests := true, laidLooks := .later }
def RollLawsUptoCardSaid : Prop := Claim7.holds Tryz.pinned (.plain (OpenSpec.upto rollLawsSpec)) rollLawsUptoCard

/-- THE SECOND FORM's CARD OF 'rentierlaw6.CalBack'. -/
def calBackUptoCard : Claim7 := { stood := { row := calBackUptoRow, standIns := [], harness := (true, "529aebcc668dd877cf8a8a12d4627aaddf1a9acf01a5c5f7074a43ad6c1fd003"), looks := true }, kinds := [], alts := [], laidByText := true, laidKinds := [.data, .data, .data, .data, .handle, .sentinel, .sentinel, .pinned], laidTests := true, laidLooks := .later }
def CalBackUptoCardSaid : Prop := Claim7.holds Tryz.pinned (.plain (OpenSpec.upto calBackSpec)) calBackUptoCard

/-- THE SECOND FORM's CARD OF 'rentierlaw6.CalAdd'. -/
def calAddUptoCard : Claim7 := { stood := { row := calAddUptoRow, standIns := [], harness := (true, "529aebcc668dd877cf8a8a12d4627aaddf1a9acf01a5c5f7074a43ad6c1fd003"), looks := true }, kinds := [], alts := [], laidByText := true, laidKinds := [.data, .data, .data, .data, .handle, .sentinel, .sentinel, .pinned], laidTests := true, laidLooks := .later }
def CalAddUptoCardSaid : Prop := Claim7.holds Tryz.pinned (.plain (OpenSpec.upto calAddSpec)) calAddUptoCard

/-- THE SECOND FORM's CARD OF 'rentierlaw6.CountNone'. -/
def countNoneUptoCard : Claim7 := { stood := { row := countNoneUptoRow, standIns := [], harness := (true, "529aebcc668dd877cf8a8a12d4627aaddf1a9acf01a5c5f7074a43ad6c1fd003"), looks := true }, kinds := [], alts := [], laidByText := true, laidKinds := [.data, .data, .data, .data, .handle, .sentinel, .sentinel, .pinned], laidTests := true, laidLooks := .later }
def CountNoneUptoCardSaid : Prop := Claim7.holds Tryz.pinned (.plain (OpenSpec.upto countNoneSpec)) countNoneUptoCard

/-- THE SECOND FORM's CARD OF 'rentierlaw6.DateKnown'. -/
def dateKnownUptoCard : Claim7 := { stood := { row := dateKnownUptoRow, standIns := [], harness := (true, "529aebcc668dd877cf8a8a12d4627aaddf1a9acf01a5c5f7074a43ad6c1fd003"), looks := true }, kinds := [], alts := [], laidByText := true, laidKinds := [.data, .data, .data, .data, .handle, .sentinel, .sentinel, .pinned], laidTests := true, laidLooks := .later }
def DateKnownUptoCardSaid : Prop := Claim7.holds Tryz.pinned (.plain (OpenSpec.upto dateKnownSpec)) dateKnownUptoCard
end Rows
end Go.Proofs.YtdlcleecjeipnaaGreatDoor
