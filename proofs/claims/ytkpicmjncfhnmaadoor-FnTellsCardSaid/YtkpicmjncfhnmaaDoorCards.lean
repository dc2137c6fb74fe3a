/-
  DERIVED. GIVEN WITH THE SEED: THE CARDS: each row of YtkpicmjncfhnmaaDoorRows.lean that lists a variable, with what it lists TIED to the program's text (the seventh form; the later family's looks); each row that meets fmt, with fmt's text TOLD by the authors' own Lean function (tested against real Go, not proved from fmt's source: count such statements apart). THE CARD IS WHAT COUNTS. Prove the row's statement (the work); the ties are given (YtkpicmjncfhnmaaDoorTie.lean); close each card by the builder's one call (the guide's Derived/Test/ToyasCard.lean, 'card_holds'). Laid BY PROGRAM, IN A SANDBOX (cutbox-door.mjs). By AI agents, Wed Nov 11 2026. No macro, syntax, notation, axiom, sorry.
-/
import Derived.Test.YtkpicmjncfhnmaaDoorRows
import GoSem.ClaimSeven
namespace Go.Proofs.YtkpicmjncfhnmaaDoor
namespace Rows

/-- THE TIED CARD OF 'laws.FnExactRankOf'. -/
def fnExactRankOfCard : Claim7 := { stood := { row := fnExactRankOfRow, standIns := [], harness := (true, "d85cee38985cf6c139ceacc26ef529c5cd4d31af0720967839191081f27504cb"), looks := false }, kinds := [], alts := [], laidByText := true, laidKinds := [.data, .data], laidTests := true, laidLooks := .later }
def FnExactRankOfCardSaid : Prop := Claim7.holds Tryd.pinned (.plain (OpenSpec.ofChange fnExactRankOfSpec)) fnExactRankOfCard

/-- THE TIED CARD OF 'laws.FnAdded'. -/
def fnAddedCard : Claim7 := { stood := { row := fnAddedRow, standIns := [], harness := (true, "d85cee38985cf6c139ceacc26ef529c5cd4d31af0720967839191081f27504cb"), looks := false }, kinds := [], alts := [], laidByText := true, laidKinds := [.data, .data], laidTests := true, laidLooks := .later }
def FnAddedCardSaid : Prop := Claim7.holds Tryd.pinned (.plain (OpenSpec.ofChange fnAddedSpec)) fnAddedCard

/-- THE TIED CARD OF 'laws.FnExactDigits'. -/
def fnExactDigitsCard : Claim7 := { stood := { row := fnExactDigitsRow, standIns := [], harness := (true, "d85cee38985cf6c139ceacc26ef529c5cd4d31af0720967839191081f27504cb"), looks := false }, kinds := [], alts := [], laidByText := true, laidKinds := [.data, .data, .data], laidTests := true, laidLooks := .later }
def FnExactDigitsCardSaid : Prop := Claim7.holds Tryd.pinned (.plain (OpenSpec.ofChange fnExactDigitsSpec)) fnExactDigitsCard

/-- THE TIED CARD OF 'laws.FnExactNumber'. -/
def fnExactNumberCard : Claim7 := { stood := { row := fnExactNumberRow, standIns := [], harness := (true, "d85cee38985cf6c139ceacc26ef529c5cd4d31af0720967839191081f27504cb"), looks := false }, kinds := [], alts := [], laidByText := true, laidKinds := [.data, .data, .data], laidTests := true, laidLooks := .later }
def FnExactNumberCardSaid : Prop := Claim7.holds Tryd.pinned (.plain (OpenSpec.ofChange fnExactNumberSpec)) fnExactNumberCard

/-- THE TIED CARD OF 'laws.FnExactParts'. -/
def fnExactPartsCard : Claim7 := { stood := { row := fnExactPartsRow, standIns := [], harness := (true, "d85cee38985cf6c139ceacc26ef529c5cd4d31af0720967839191081f27504cb"), looks := false }, kinds := [], alts := [], laidByText := true, laidKinds := [.data, .pinned], laidTests := true, laidLooks := .later }
def FnExactPartsCardSaid : Prop := Claim7.holds Tryd.pinned (.plain (OpenSpec.ofChange fnExactPartsSpec)) fnExactPartsCard

/-- THE TIED CARD OF 'laws.FnSketched'. -/
def fnSketchedCard : Claim7 := { stood := { row := fnSketchedRow, standIns := [], harness := (true, "d85cee38985cf6c139ceacc26ef529c5cd4d31af0720967839191081f27504cb"), looks := false }, kinds := [], alts := [], laidByText := true, laidKinds := [.data, .data], laidTests := true, laidLooks := .later }
def FnSketchedCardSaid : Prop := Claim7.holds Tryd.pinned (.plain (OpenSpec.ofChange fnSketchedSpec)) fnSketchedCard

/-- THE TIED CARD OF 'laws.FnExactSetText'. -/
def fnExactSetTextCard : Claim7 := { stood := { row := fnExactSetTextRow, standIns := [], harness := (true, "d85cee38985cf6c139ceacc26ef529c5cd4d31af0720967839191081f27504cb"), looks := false }, kinds := [], alts := [], laidByText := true, laidKinds := [.data, .data, .data], laidTests := true, laidLooks := .later }
def FnExactSetTextCardSaid : Prop := Claim7.holds Tryd.pinned (.plain (OpenSpec.ofChange fnExactSetTextSpec)) fnExactSetTextCard

/-- THE TIED CARD OF 'laws.FnExactSketched'. -/
def fnExactSketchedCard : Claim7 := { stood := { row := fnExactSketchedRow, standIns := [], harness := (true, "d85cee38985cf6c139ceacc26ef529c5cd4d31af0720967839191081f27504cb"), looks := false }, kinds := [], alts := [], laidByText := true, laidKinds := [.data, .data], laidTests := true, laidLooks := .later }
def FnExactSketchedCardSaid : Prop := Claim7.holds Tryd.pinned (.plain (OpenSpec.ofChange fnExactSketchedSpec)) fnExactSketchedCard

/-- THE TIED CARD OF 'laws.FnExactSketchText'. -/
def fnExactSketchTextCard : Claim7 := { stood := { row := fnExactSketchTextRow, standIns := [], harness := (true, "d85cee38985cf6c139ceacc26ef529c5cd4d31af0720967839191081f27504cb"), looks := false }, kinds := [], alts := [], laidByText := true, laidKinds := [.data, .data, .data], laidTests := true, laidLooks := .later }
def FnExactSketchTextCardSaid : Prop := Claim7.holds Tryd.pinned (.plain (OpenSpec.ofChange fnExactSketchTextSpec)) fnExactSketchTextCard

/-- THE TIED CARD OF 'laws.FnTells'. -/
def fnTellsCard : Claim7 := { stood := { row := fnTellsRow, standIns := [], harness := (true, "d85cee38985cf6c139ceacc26ef529c5cd4d31af0720967839191081f27504cb"), looks := false }, kinds := [], alts := [], laidByText := true, laidKinds := [.data, .data], laidTests := true, laidLooks := .later }
def FnTellsCardSaid : Prop := Claim7.holds Tryd.pinned (.plain (OpenSpec.ofChange fnTellsSpec)) fnTellsCard

/-- THE TIED CARD OF 'laws.FnExactInsert'. -/
def fnExactInsertCard : Claim7 := { stood := { row := fnExactInsertRow, standIns := [], harness := (true, "d85cee38985cf6c139ceacc26ef529c5cd4d31af0720967839191081f27504cb"), looks := false }, kinds := [], alts := [], laidByText := true, laidKinds := [.data, .data], laidTests := true, laidLooks := .later }
def FnExactInsertCardSaid : Prop := Claim7.holds Tryd.pinned (.plain (OpenSpec.ofChange fnExactInsertSpec)) fnExactInsertCard

/-- THE TIED CARD OF 'laws.FnSets'. -/
def fnSetsCard : Claim7 := { stood := { row := fnSetsRow, standIns := [], harness := (true, "d85cee38985cf6c139ceacc26ef529c5cd4d31af0720967839191081f27504cb"), looks := false }, kinds := [], alts := [], laidByText := true, laidKinds := [.data, .data, .data], laidTests := true, laidLooks := .later }
def FnSetsCardSaid : Prop := Claim7.holds Tryd.pinned (.plain (OpenSpec.ofChange fnSetsSpec)) fnSetsCard

/-- THE SECOND FORM's CARD OF 'laws.FnExactRankOf'. -/
def fnExactRankOfUptoCard : Claim7 := { stood := { row := fnExactRankOfUptoRow, standIns := [], harness := (true, "d85cee38985cf6c139ceacc26ef529c5cd4d31af0720967839191081f27504cb"), looks := false }, kinds := [], alts := [], laidByText := true, laidKinds := [.data, .data], laidTests := true, laidLooks := .later }
def FnExactRankOfUptoCardSaid : Prop := Claim7.holds Tryd.pinned (.plain (OpenSpec.upto fnExactRankOfSpec)) fnExactRankOfUptoCard

/-- THE SECOND FORM's CARD OF 'laws.FnAdded'. -/
def fnAddedUptoCard : Claim7 := { stood := { row := fnAddedUptoRow, standIns := [], harness := (true, "d85cee38985cf6c139ceacc26ef529c5cd4d31af0720967839191081f27504cb"), looks := false }, kinds := [], alts := [], laidByText := true, laidKinds := [.data, .data], laidTests := true, laidLooks := .later }
def FnAddedUptoCardSaid : Prop := Claim7.holds Tryd.pinned (.plain (OpenSpec.upto fnAddedSpec)) fnAddedUptoCard

/-- THE SECOND FORM's CARD OF 'laws.FnExactDigits'. -/
def fnExactDigitsUptoCard : Claim7 := { stood := { row := fnExactDigitsUptoRow, standIns := [], harness := (true, "d85cee38985cf6c139ceacc26ef529c5cd4d31af0720967839191081f27504cb"), looks := false }, kinds := [], alts := [], laidByText := true, laidKinds := [.data, .data, .data], laidTests := true, laidLooks := .later }
def FnExactDigitsUptoCardSaid : Prop := Claim7.holds Tryd.pinned (.plain (OpenSpec.upto fnExactDigitsSpec)) fnExactDigitsUptoCard

/-- THE SECOND FORM's CARD OF 'laws.FnExactNumber'. -/
def fnExactNumberUptoCard : Claim7 := { stood := { row := fnExactNumberUptoRow, standIns := [], harness := (true, "d85cee38985cf6c139ceacc26ef529c5cd4d31af0720967839191081f27504cb"), looks := false }, kinds := [], alts := [], laidByText := true, laidKinds := [.data, .data, .data], laidTests := true, laidLooks := .later }
def FnExactNumberUptoCardSaid : Prop := Claim7.holds Tryd.pinned (.plain (OpenSpec.upto fnExactNumberSpec)) fnExactNumberUptoCard

/-- THE SECOND FORM's CARD OF 'laws.FnExactParts'. -/
def fnExactPartsUptoCard : Claim7 := { stood := { row := fnExactPartsUptoRow, standIns := [], harness := (true, "d85cee38985cf6c139ceacc26ef529c5cd4d31af0720967839191081f27504cb"), looks := false }, kinds := [], alts := [], laidByText := true, laidKinds := [.data, .pinned], laidTests := true, laidLooks := .later }
def FnExactPartsUptoCardSaid : Prop := Claim7.holds Tryd.pinned (.plain (OpenSpec.upto fnExactPartsSpec)) fnExactPartsUptoCard

/-- THE SECOND FORM's CARD OF 'laws.FnSketched'. -/
def fnSketchedUptoCard : Claim7 := { stood := { row := fnSketchedUptoRow, standIns := [], harness := (true, "d85cee38985cf6c139ceacc26ef529c5cd4d31af0720967839191081f27504cb"), looks := false }, kinds := [], alts := [], laidByText := true, laidKinds := [.data, .data], laidTests := true, laidLooks := .later }
def FnSketchedUptoCardSaid : Prop := Claim7.holds Tryd.pinned (.plain (OpenSpec.upto fnSketchedSpec)) fnSketchedUptoCard

/-- THE SECOND FORM's CARD OF 'laws.FnExactSetText'. -/
def fnExactSetTextUptoCard : Claim7 := { stood := { row := fnExactSetTextUptoRow, standIns := [], harness := (true, "d85cee38985cf6c139ceacc26ef529c5cd4d31af0720967839191081f27504cb"), looks := false }, kinds := [], alts := [], laidByText := true, laidKinds := [.data, .data, .data], laidTests := true, laidLooks := .later }
def FnExactSetTextUptoCardSaid : Prop := Claim7.holds Tryd.pinned (.plain (OpenSpec.upto fnExactSetTextSpec)) fnExactSetTextUptoCard

/-- THE SECOND FORM's CARD OF 'laws.FnExactSketched'. -/
def fnExactSketchedUptoCard : Claim7 := { stood := { row := fnExactSketchedUptoRow, standIns := [], harness := (true, "d85cee38985cf6c139ceacc26ef529c5cd4d31af0720967839191081f27504cb"), looks := false }, kinds := [], alts := [], laidByText := true, laidKinds := [.data, .data], laidTests := true, laidLooks := .later }
def FnExactSketchedUptoCardSaid : Prop := Claim7.holds Tryd.pinned (.plain (OpenSpec.upto fnExactSketchedSpec)) fnExactSketchedUptoCard

/-- THE SECOND FORM's CARD OF 'laws.FnExactSketchText'. -/
def fnExactSketchTextUptoCard : Claim7 := { stood := { row := fnExactSketchTextUptoRow, standIns := [], harness := (true, "d85cee38985cf6c139ceacc26ef529c5cd4d31af0720967839191081f27504cb"), looks := false }, kinds := [], alts := [], laidByText := true, laidKinds := [.data, .data, .data], laidTests := true, laidLooks := .later }
def FnExactSketchTextUptoCardSaid : Prop := Claim7.holds Tryd.pinned (.plain (OpenSpec.upto fnExactSketchTextSpec)) fnExactSketchTextUptoCard

/-- THE SECOND FORM's CARD OF 'laws.FnTells'. -/
def fnTellsUptoCard : Claim7 := { stood := { row := fnTellsUptoRow, standIns := [], harness := (true, "d85cee38985cf6c139ceacc26ef529c5cd4d31af0720967839191081f27504cb"), looks := false }, kinds := [], alts := [], laidByText := true, laidKinds := [.data, .data], laidTests := true, laidLooks := .later }
def FnTellsUptoCardSaid : Prop := Claim7.holds Tryd.pinned (.plain (OpenSpec.upto fnTellsSpec)) fnTellsUptoCard

/-- THE SECOND FORM's CARD OF 'laws.FnExactInsert'. -/
def fnExactInsertUptoCard : Claim7 := { stood := { row := fnExactInsertUptoRow, standIns := [], harness := (true, "d85cee38985cf6c139ceacc26ef529c5cd4d31af0720967839191081f27504cb"), looks := false }, kinds := [], alts := [], laidByText := true, laidKinds := [.data, .data], laidTests := true, laidLooks := .later }
def FnExactInsertUptoCardSaid : Prop := Claim7.holds Tryd.pinned (.plain (OpenSpec.upto fnExactInsertSpec)) fnExactInsertUptoCard

/-- THE SECOND FORM's CARD OF 'laws.FnSets'. -/
def fnSetsUptoCard : Claim7 := { stood := { row := fnSetsUptoRow, standIns := [], harness := (true, "d85cee38985cf6c139ceacc26ef529c5cd4d31af0720967839191081f27504cb"), looks := false }, kinds := [], alts := [], laidByText := true, laidKinds := [.data, .data, .data], laidTests := true, laidLooks := .later }
def FnSetsUptoCardSaid : Prop := Claim7.holds Tryd.pinned (.plain (OpenSpec.upto fnSetsSpec)) fnSetsUptoCard
end Rows
end Go.Proofs.YtkpicmjncfhnmaaDoor
