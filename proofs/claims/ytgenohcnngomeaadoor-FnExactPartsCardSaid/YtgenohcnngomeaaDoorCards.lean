/-
  DERIVED. GIVEN WITH THE SEED: THE CARDS: each row of YtgenohcnngomeaaDoorRows.lean that lists a variable, with what it lists TIED to the program's text (the seventh form; the later family's looks); each row that meets fmt, with fmt's text TOLD by the authors' own Lean function (tested against real Go, not proved from fmt's source: count such statements apart). THE CARD IS WHAT COUNTS. Prove the row's statement (the work); the ties are given (YtgenohcnngomeaaDoorTie.lean); close each card by the builder's one call (the guide's Derived/Test/ToyasCard.lean, 'card_holds'). Laid BY PROGRAM, IN A SANDBOX (cutbox-door.mjs). By AI agents, Wed Nov 11 2026. No macro, syntax, notation, axiom, sorry.
-/
import Derived.Test.YtgenohcnngomeaaDoorRows
import GoSem.ClaimSeven
namespace Go.Proofs.YtgenohcnngomeaaDoor
namespace Rows

/-- THE TIED CARD OF 'laws.FnExactParts'. -/
def fnExactPartsCard : Claim7 := { stood := { row := fnExactPartsRow, standIns := [], harness := (true, "a2f37aae8ad0bf8ffaa457acc19ed2fcf97d583fc953b5e22f8e04551427966f"), looks := false }, kinds := [], alts := [], laidByText := true, laidKinds := [.data, .pinned], laidTests := true, laidLooks := .later }
def FnExactPartsCardSaid : Prop := Claim7.holds Tryd.pinned (.plain (OpenSpec.ofChange fnExactPartsSpec)) fnExactPartsCard

/-- THE TIED CARD OF 'laws.FnExactSetText'. -/
def fnExactSetTextCard : Claim7 := { stood := { row := fnExactSetTextRow, standIns := [], harness := (true, "a2f37aae8ad0bf8ffaa457acc19ed2fcf97d583fc953b5e22f8e04551427966f"), looks := false }, kinds := [], alts := [], laidByText := true, laidKinds := [.data, .data, .data], laidTests := true, laidLooks := .later }
def FnExactSetTextCardSaid : Prop := Claim7.holds Tryd.pinned (.plain (OpenSpec.ofChange fnExactSetTextSpec)) fnExactSetTextCard

/-- THE TIED CARD OF 'laws.FnSets'. -/
def fnSetsCard : Claim7 := { stood := { row := fnSetsRow, standIns := [], harness := (true, "a2f37aae8ad0bf8ffaa457acc19ed2fcf97d583fc953b5e22f8e04551427966f"), looks := false }, kinds := [], alts := [], laidByText := true, laidKinds := [.data, .data, .data], laidTests := true, laidLooks := .later }
def FnSetsCardSaid : Prop := Claim7.holds Tryd.pinned (.plain (OpenSpec.ofChange fnSetsSpec)) fnSetsCard

/-- THE SECOND FORM's CARD OF 'laws.FnExactParts'. -/
def fnExactPartsUptoCard : Claim7 := { stood := { row := fnExactPartsUptoRow, standIns := [], harness := (true, "a2f37aae8ad0bf8ffaa457acc19ed2fcf97d583fc953b5e22f8e04551427966f"), looks := false }, kinds := [], alts := [], laidByText := true, laidKinds := [.data, .pinned], laidTests := true, laidLooks := .later }
def FnExactPartsUptoCardSaid : Prop := Claim7.holds Tryd.pinned (.plain (OpenSpec.upto fnExactPartsSpec)) fnExactPartsUptoCard

/-- THE SECOND FORM's CARD OF 'laws.FnExactSetText'. -/
def fnExactSetTextUptoCard : Claim7 := { stood := { row := fnExactSetTextUptoRow, standIns := [], harness := (true, "a2f37aae8ad0bf8ffaa457acc19ed2fcf97d583fc953b5e22f8e04551427966f"), looks := false }, kinds := [], alts := [], laidByText := true, laidKinds := [.data, .data, .data], laidTests := true, laidLooks := .later }
def FnExactSetTextUptoCardSaid : Prop := Claim7.holds Tryd.pinned (.plain (OpenSpec.upto fnExactSetTextSpec)) fnExactSetTextUptoCard

/-- THE SECOND FORM's CARD OF 'laws.FnSets'. -/
def fnSetsUptoCard : Claim7 := { stood := { row := fnSetsUptoRow, standIns := [], harness := (true, "a2f37aae8ad0bf8ffaa457acc19ed2fcf97d583fc953b5e22f8e04551427966f"), looks := false }, kinds := [], alts := [], laidByText := true, laidKinds := [.data, .data, .data], laidTests := true, laidLooks := .later }
def FnSetsUptoCardSaid : Prop := Claim7.holds Tryd.pinned (.plain (OpenSpec.upto fnSetsSpec)) fnSetsUptoCard
end Rows
end Go.Proofs.YtgenohcnngomeaaDoor
