/-
  DERIVED. GIVEN WITH THE SEED: THE CARDS: each row of YthhjcfejgoddlaaGreatDoorRows.lean that lists a variable, with what it lists TIED to the program's text (the seventh form; the later family's looks); each row that meets fmt, with fmt's text TOLD by the authors' own Lean function (tested against real Go, not proved from fmt's source: count such statements apart). THE CARD IS WHAT COUNTS. Prove the row's statement (the work); the ties are given (YthhjcfejgoddlaaGreatDoorTie.lean); close each card by the builder's one call (the guide's Derived/Test/ToyasCard.lean, 'card_holds'). Laid BY PROGRAM, IN A SANDBOX (cutbox-door.mjs). By AI agents, Wed Nov 11 2026. No macro, syntax, notation, axiom, sorry.
-/
import Derived.Test.YthhjcfejgoddlaaGreatDoorRows
import GoSem.ClaimSeven
namespace Go.Proofs.YthhjcfejgoddlaaGreatDoor
namespace Rows

/-- THE TIED CARD OF 'foregonelaw01.NumFractions'. -/
def numFractionsCard : Claim7 := { stood := { row := numFractionsRow, standIns := [], harness := (true, "71052e42115e9a5c8fe1e7044380f4a842a6957b7952595d1464e543b10f7a3d"), looks := true }, kinds := [], alts := [], laidByText := true, laidKinds := [.data, .data, .data, .sentinel, .sentinel], laidTests := true, laidLooks := .later }
def NumFractionsCardSaid : Prop := Claim7.holds Tryz.pinned (.plain (OpenSpec.ofChange numFractionsSpec)) numFractionsCard

/-- THE TIED CARD OF 'foregonelaw01.NumChoices'. -/
def numChoicesCard : Claim7 := { stood := { row := numChoicesRow, standIns := [], harness := (true, "71052e42115e9a5c8fe1e7044380f4a842a6957b7952595d1464e543b10f7a3d"), looks := true }, kinds := [], alts := [], laidByText := true, laidKinds := [.data, .data, .data, .sentinel, .sentinel], laidTests := true, laidLooks := .later }
def NumChoicesCardSaid : Prop := Claim7.holds Tryz.pinned (.plain (OpenSpec.ofChange numChoicesSpec)) numChoicesCard

/-- THE TIED CARD OF 'foregonelaw01.NumPowers'. -/
def numPowersCard : Claim7 := { stood := { row := numPowersRow, standIns := [], harness := (true, "71052e42115e9a5c8fe1e7044380f4a842a6957b7952595d1464e543b10f7a3d"), looks := true }, kinds := [], alts := [], laidByText := true, laidKinds := [.data, .data, .data, .sentinel, .sentinel], laidTests := true, laidLooks := .later }
def NumPowersCardSaid : Prop := Claim7.holds Tryz.pinned (.plain (OpenSpec.ofChange numPowersSpec)) numPowersCard

/-- THE TIED CARD OF 'foregonelaw01.NumBezout'. -/
def numBezoutCard : Claim7 := { stood := { row := numBezoutRow, standIns := [], harness := (true, "71052e42115e9a5c8fe1e7044380f4a842a6957b7952595d1464e543b10f7a3d"), looks := true }, kinds := [], alts := [], laidByText := true, laidKinds := [.data, .data, .data, .sentinel, .sentinel], laidTests := true, laidLooks := .later }
def NumBezoutCardSaid : Prop := Claim7.holds Tryz.pinned (.plain (OpenSpec.ofChange numBezoutSpec)) numBezoutCard

/-- THE TIED CARD OF 'foregonelaw01.NumOrder'. -/
def numOrderCard : Claim7 := { stood := { row := numOrderRow, standIns := [], harness := (true, "71052e42115e9a5c8fe1e7044380f4a842a6957b7952595d1464e543b10f7a3d"), looks := true }, kinds := [], alts := [], laidByText := true, laidKinds := [.data, .data, .data, .sentinel, .sentinel], laidTests := true, laidLooks := .later }
def NumOrderCardSaid : Prop := Claim7.holds Tryz.pinned (.plain (OpenSpec.ofChange numOrderSpec)) numOrderCard

/-- THE TIED CARD OF 'foregonelaw01.NumSmall'. -/
def numSmallCard : Claim7 := { stood := { row := numSmallRow, standIns := [], harness := (true, "71052e42115e9a5c8fe1e7044380f4a842a6957b7952595d1464e543b10f7a3d"), looks := true }, kinds := [], alts := [], laidByText := true, laidKinds := [.data, .data, .data, .sentinel, .sentinel], laidTests := true, laidLooks := .later }
def NumSmallCardSaid : Prop := Claim7.holds Tryz.pinned (.plain (OpenSpec.ofChange numSmallSpec)) numSmallCard

/-- THE TIED CARD OF 'foregonelaw01.NumSums'. -/
def numSumsCard : Claim7 := { stood := { row := numSumsRow, standIns := [], harness := (true, "71052e42115e9a5c8fe1e7044380f4a842a6957b7952595d1464e543b10f7a3d"), looks := true }, kinds := [], alts := [], laidByText := true, laidKinds := [.data, .data, .data, .sentinel, .sentinel], laidTests := true, laidLooks := .later }
def NumSumsCardSaid : Prop := Claim7.holds Tryz.pinned (.plain (OpenSpec.ofChange numSumsSpec)) numSumsCard

/-- THE TIED CARD OF 'foregonelaw01.NumRing'. -/
def numRingCard : Claim7 := { stood := { row := numRingRow, standIns := [], harness := (true, "71052e42115e9a5c8fe1e7044380f4a842a6957b7952595d1464e543b10f7a3d"), looks := true }, kinds := [], alts := [], laidByText := true, laidKinds := [.data, .data, .data, .sentinel, .sentinel], laidTests := true, laidLooks := .later }
def NumRingCardSaid : Prop := Claim7.holds Tryz.pinned (.plain (OpenSpec.ofChange numRingSpec)) numRingCard

/-- THE TIED CARD OF 'foregonelaw01.NumCompares'. -/
def numComparesCard : Claim7 := { stood := { row := numComparesRow, standIns := [], harness := (true, "71052e42115e9a5c8fe1e7044380f4a842a6957b7952595d1464e543b10f7a3d"), looks := true }, kinds := [], alts := [], laidByText := true, laidKinds := [.data, .data, .data, .sentinel, .sentinel], laidTests := true, laidLooks := .later }
def NumComparesCardSaid : Prop := Claim7.holds Tryz.pinned (.plain (OpenSpec.ofChange numComparesSpec)) numComparesCard

/-- THE TIED CARD OF 'foregonelaw01.NumFinds'. -/
def numFindsCard : Claim7 := { stood := { row := numFindsRow, standIns := [], harness := (true, "71052e42115e9a5c8fe1e7044380f4a842a6957b7952595d1464e543b10f7a3d"), looks := true }, kinds := [], alts := [], laidByText := true, laidKinds := [.data, .data, .data, .sentinel, .sentinel], laidTests := true, laidLooks := .later }
def NumFindsCardSaid : Prop := Claim7.holds Tryz.pinned (.plain (OpenSpec.ofChange numFindsSpec)) numFindsCard

/-- THE TIED CARD OF 'foregonelaw01.NumRoots'. -/
def numRootsCard : Claim7 := { stood := { row := numRootsRow, standIns := [], harness := (true, "71052e42115e9a5c8fe1e7044380f4a842a6957b7952595d1464e543b10f7a3d"), looks := true }, kinds := [], alts := [], laidByText := true, laidKinds := [.data, .data, .data, .sentinel, .sentinel], laidTests := true, laidLooks := .later }
def NumRootsCardSaid : Prop := Claim7.holds Tryz.pinned (.plain (OpenSpec.ofChange numRootsSpec)) numRootsCard

/-- THE TIED CARD OF 'foregonelaw01.NumForms'. -/
def numFormsCard : Claim7 := { stood := { row := numFormsRow, standIns := [], harness := (true, "71052e42115e9a5c8fe1e7044380f4a842a6957b7952595d1464e543b10f7a3d"), looks := true }, kinds := [], alts := [], laidByText := true, laidKinds := [.data, .data, .data, .sentinel, .sentinel], laidTests := true, laidLooks := .later }
def NumFormsCardSaid : Prop := Claim7.holds Tryz.pinned (.plain (OpenSpec.ofChange numFormsSpec)) numFormsCard

/-- THE TIED CARD OF 'foregonelaw01.NumBack'. -/
def numBackCard : Claim7 := { stood := { row := numBackRow, standIns := [], harness := (true, "71052e42115e9a5c8fe1e7044380f4a842a6957b7952595d1464e543b10f7a3d"), looks := true }, kinds := [], alts := [], laidByText := true, laidKinds := [.data, .data, .data, .sentinel, .sentinel], laidTests := true, laidLooks := .later }
def NumBackCardSaid : Prop := Claim7.holds Tryz.pinned (.plain (OpenSpec.ofChange numBackSpec)) numBackCard

/-- THE SECOND FORM's CARD OF 'foregonelaw01.NumFractions'. -/
def numFractionsUptoCard : Claim7 := { stood := { row := numFractionsUptoRow, standIns := [], harness := (true, "71052e42115e9a5c8fe1e7044380f4a842a6957b7952595d1464e543b10f7a3d"), looks := true }, kinds := [], alts := [], laidByText := true, laidKinds := [.data, .data, .data, .sentinel, .sentinel], laidTests := true, laidLooks := .later }
def NumFractionsUptoCardSaid : Prop := Claim7.holds Tryz.pinned (.plain (OpenSpec.upto numFractionsSpec)) numFractionsUptoCard

/-- THE SECOND FORM's CARD OF 'foregonelaw01.NumChoices'. -/
def numChoicesUptoCard : Claim7 := { stood := { row := numChoicesUptoRow, standIns := [], harness := (true, "71052e42115e9a5c8fe1e7044380f4a842a6957b7952595d1464e543b10f7a3d"), looks := true }, kinds := [], alts := [], laidByText := true, laidKinds := [.data, .data, .data, .sentinel, .sentinel], laidTests := true, laidLooks := .later }
def NumChoicesUptoCardSaid : Prop := Claim7.holds Tryz.pinned (.plain (OpenSpec.upto numChoicesSpec)) numChoicesUptoCard

/-- THE SECOND FORM's CARD OF 'foregonelaw01.NumPowers'. -/
def numPowersUptoCard : Claim7 := { stood := { row := numPowersUptoRow, standIns := [], harness := (true, "71052e42115e9a5c8fe1e7044380f4a842a6957b7952595d1464e543b10f7a3d"), looks := true }, kinds := [], alts := [], laidByText := true, laidKinds := [.data, .data, .data, .sentinel, .sentinel], laidTests := true, laidLooks := .later }
def NumPowersUptoCardSaid : Prop := Claim7.holds Tryz.pinned (.plain (OpenSpec.upto numPowersSpec)) numPowersUptoCard

/-- THE SECOND FORM's CARD OF 'foregonelaw01.NumBezout'. -/
def numBezoutUptoCard : Claim7 := { stood := { row := numBezoutUptoRow, standIns := [], harness := (true, "71052e42115e9a5c8fe1e7044380f4a842a6957b7952595d1464e543b10f7a3d"), looks := true }, kinds := [], alts := [], laidByText := true, laidKinds := [.data, .data, .data, .sentinel, .sentinel], laidTests := true, laidLooks := .later }
def NumBezoutUptoCardSaid : Prop := Claim7.holds Tryz.pinned (.plain (OpenSpec.upto numBezoutSpec)) numBezoutUptoCard

/-- THE SECOND FORM's CARD OF 'foregonelaw01.NumOrder'. -/
def numOrderUptoCard : Claim7 := { stood := { row := numOrderUptoRow, standIns := [], harness := (true, "71052e42115e9a5c8fe1e7044380f4a842a6957b7952595d1464e543b10f7a3d"), looks := true }, kinds := [], alts := [], laidByText := true, laidKinds := [.data, .data, .data, .sentinel, .sentinel], laidTests := true, laidLooks := .later }
def NumOrderUptoCardSaid : Prop := Claim7.holds Tryz.pinned (.plain (OpenSpec.upto numOrderSpec)) numOrderUptoCard

/-- THE SECOND FORM's CARD OF 'foregonelaw01.NumSmall'. -/
def numSmallUptoCard : Claim7 := { stood := { row := numSmallUptoRow, standIns := [], harness := (true, "71052e42115e9a5c8fe1e7044380f4a842a6957b7952595d1464e543b10f7a3d"), looks := true }, kinds := [], alts := [], laidByText := true, laidKinds := [.data, .data, .data, .sentinel, .sentinel], laidTests := true, laidLooks := .later }
def NumSmallUptoCardSaid : Prop := Claim7.holds Tryz.pinned (.plain (OpenSpec.upto numSmallSpec)) numSmallUptoCard

/-- THE SECOND FORM's CARD OF 'foregonelaw01.NumSums'. -/
def numSumsUptoCard : Claim7 := { stood := { row := numSumsUptoRow, standIns := [], harness := (true, "71052e42115e9a5c8fe1e7044380f4a842a6957b7952595d1464e543b10f7a3d"), looks := true }, kinds := [], alts := [], laidByText := true, laidKinds := [.data, .data, .data, .sentinel, .sentinel], laidTests := true, laidLooks := .later }
def NumSumsUptoCardSaid : Prop := Claim7.holds Tryz.pinned (.plain (OpenSpec.upto numSumsSpec)) numSumsUptoCard

/-- THE SECOND FORM's CARD OF 'foregonelaw01.NumRing'. -/
def numRingUptoCard : Claim7 := { stood := { row := numRingUptoRow, standIns := [], harness := (true, "71052e42115e9a5c8fe1e7044380f4a842a6957b7952595d1464e543b10f7a3d"), looks := true }, kinds := [], alts := [], laidByText := true, laidKinds := [.data, .data, .data, .sentinel, .sentinel], laidTests := true, laidLooks := .later }
def NumRingUptoCardSaid : Prop := Claim7.holds Tryz.pinned (.plain (OpenSpec.upto numRingSpec)) numRingUptoCard

/-- THE SECOND FORM's CARD OF 'foregonelaw01.NumCompares'. -/
def numComparesUptoCard : Claim7 := { stood := { row := numComparesUptoRow, standIns := [], harness := (true, "71052e42115e9a5c8fe1e7044380f4a842a6957b7952595d1464e543b10f7a3d"), looks := true }, kinds := [], alts := [], laidByText := true, laidKinds := [.data, .data, .data, .sentinel, .sentinel], laidTests := true, laidLooks := .later }
def NumComparesUptoCardSaid : Prop := Claim7.holds Tryz.pinned (.plain (OpenSpec.upto numComparesSpec)) numComparesUptoCard

/-- THE SECOND FORM's CARD OF 'foregonelaw01.NumFinds'. -/
def numFindsUptoCard : Claim7 := { stood := { row := numFindsUptoRow, standIns := [], harness := (true, "71052e42115e9a5c8fe1e7044380f4a842a6957b7952595d1464e543b10f7a3d"), looks := true }, kinds := [], alts := [], laidByText := true, laidKinds := [.data, .data, .data, .sentinel, .sentinel], laidTests := true, laidLooks := .later }
def NumFindsUptoCardSaid : Prop := Claim7.holds Tryz.pinned (.plain (OpenSpec.upto numFindsSpec)) numFindsUptoCard

/-- THE SECOND FORM's CARD OF 'foregonelaw01.NumRoots'. -/
def numRootsUptoCard : Claim7 := { stood := { row := numRootsUptoRow, standIns := [], harness := (true, "71052e42115e9a5c8fe1e7044380f4a842a6957b7952595d1464e543b10f7a3d"), looks := true }, kinds := [], alts := [], laidByText := true, laidKinds := [.data, .data, .data, .sentinel, .sentinel], laidTests := true, laidLooks := .later }
def NumRootsUptoCardSaid : Prop := Claim7.holds Tryz.pinned (.plain (OpenSpec.upto numRootsSpec)) numRootsUptoCard

/-- THE SECOND FORM's CARD OF 'foregonelaw01.NumForms'. -/
def numFormsUptoCard : Claim7 := { stood := { row := numFormsUptoRow, standIns := [], harness := (true, "71052e42115e9a5c8fe1e7044380f4a842a6957b7952595d1464e543b10f7a3d"), looks := true }, kinds := [], alts := [], laidByText := true, laidKinds := [.data, .data, .data, .sentinel, .sentinel], laidTests := true, laidLooks := .later }
def NumFormsUptoCardSaid : Prop := Claim7.holds Tryz.pinned (.plain (OpenSpec.upto numFormsSpec)) numFormsUptoCard

/-- THE SECOND FORM's CARD OF 'foregonelaw01.NumBack'. -/
def numBackUptoCard : Claim7 := { stood := { row := numBackUptoRow, standIns := [], harness := (true, "71052e42115e9a5c8fe1e7044380f4a842a6957b7952595d1464e543b10f7a3d"), looks := true }, kinds := [], alts := [], laidByText := true, laidKinds := [.data, .data, .data, .sentinel, .sentinel], laidTests := true, laidLooks := .later }
def NumBackUptoCardSaid : Prop := Claim7.holds Tryz.pinned (.plain (OpenSpec.upto numBackSpec)) numBackUptoCard
end Rows
end Go.Proofs.YthhjcfejgoddlaaGreatDoor
