/-
  DERIVED. GIVEN WITH THE SEED: THE CARDS: each row of YtimdoffpnjdmmaaGreatDoorRows.lean that lists a variable, with what it lists TIED to the program's text (the seventh form; the later family's looks); each row that meets fmt, with fmt's text TOLD by the authors' own Lean function (tested against real Go, not proved from fmt's source: count such statements apart). THE CARD IS WHAT COUNTS. Prove the row's statement (the work); the ties are given (YtimdoffpnjdmmaaGreatDoorTie.lean); close each card by the builder's one call (the guide's Derived/Test/ToyasCard.lean, 'card_holds'). Laid BY PROGRAM, IN A SANDBOX (cutbox-door.mjs). By AI agents, Wed Nov 11 2026. No macro, syntax, notation, axiom, sorry.
-/
import Derived.Test.YtimdoffpnjdmmaaGreatDoorRows
import GoSem.ClaimSeven
namespace Go.Proofs.YtimdoffpnjdmmaaGreatDoor
namespace Rows

/-- THE TIED CARD OF 'braidlaw22.LwwApplies'. -/
def lwwAppliesCard : Claim7 := { stood := { row := lwwAppliesRow, standIns := [], harness := (true, "c0b62d8bd913f1108d8d610ce48d6b478033fbc2c3e46cbc608d5a1168dba5c7"), looks := false }, kinds := [], alts := [], laidByText := true, laidKinds := [.data], laidTests := true, laidLooks := .later }
def LwwAppliesCardSaid : Prop := Claim7.holds Tryz.pinned (.plain (OpenSpec.ofChange lwwAppliesSpec)) lwwAppliesCard

/-- THE TIED CARD OF 'braidlaw22.LwwDoes'. -/
def lwwDoesCard : Claim7 := { stood := { row := lwwDoesRow, standIns := [], harness := (true, "c0b62d8bd913f1108d8d610ce48d6b478033fbc2c3e46cbc608d5a1168dba5c7"), looks := false }, kinds := [], alts := [], laidByText := true, laidKinds := [.data], laidTests := true, laidLooks := .later }
def LwwDoesCardSaid : Prop := Claim7.holds Tryz.pinned (.plain (OpenSpec.ofChange lwwDoesSpec)) lwwDoesCard

/-- THE TIED CARD OF 'braidlaw22.LwwSees'. -/
def lwwSeesCard : Claim7 := { stood := { row := lwwSeesRow, standIns := [], harness := (true, "c0b62d8bd913f1108d8d610ce48d6b478033fbc2c3e46cbc608d5a1168dba5c7"), looks := false }, kinds := [], alts := [], laidByText := true, laidKinds := [.data], laidTests := true, laidLooks := .later }
def LwwSeesCardSaid : Prop := Claim7.holds Tryz.pinned (.plain (OpenSpec.ofChange lwwSeesSpec)) lwwSeesCard

/-- THE TIED CARD OF 'braidlaw22.LwwOrder'. -/
def lwwOrderCard : Claim7 := { stood := { row := lwwOrderRow, standIns := [], harness := (true, "c0b62d8bd913f1108d8d610ce48d6b478033fbc2c3e46cbc608d5a1168dba5c7"), looks := false }, kinds := [], alts := [], laidByText := true, laidKinds := [.data], laidTests := true, laidLooks := .later }
def LwwOrderCardSaid : Prop := Claim7.holds Tryz.pinned (.plain (OpenSpec.ofChange lwwOrderSpec)) lwwOrderCard

/-- THE TIED CARD OF 'braidlaw22.LwwGreatest'. -/
def lwwGreatestCard : Claim7 := { stood := { row := lwwGreatestRow, standIns := [], harness := (true, "c0b62d8bd913f1108d8d610ce48d6b478033fbc2c3e46cbc608d5a1168dba5c7"), looks := false }, kinds := [], alts := [], laidByText := true, laidKinds := [.data], laidTests := true, laidLooks := .later }
def LwwGreatestCardSaid : Prop := Claim7.holds Tryz.pinned (.plain (OpenSpec.ofChange lwwGreatestSpec)) lwwGreatestCard

/-- THE TIED CARD OF 'braidlaw09.DagClosed'. -/
def dagClosedCard : Claim7 := { stood := { row := dagClosedRow, standIns := [], harness := (true, "c0b62d8bd913f1108d8d610ce48d6b478033fbc2c3e46cbc608d5a1168dba5c7"), looks := false }, kinds := [], alts := [], laidByText := true, laidKinds := [.data], laidTests := true, laidLooks := .later }
def DagClosedCardSaid : Prop := Claim7.holds Tryz.pinned (.plain (OpenSpec.ofChange dagClosedSpec)) dagClosedCard

/-- THE TIED CARD OF 'braidlaw22.LwwNames'. -/
def lwwNamesCard : Claim7 := { stood := { row := lwwNamesRow, standIns := [], harness := (true, "c0b62d8bd913f1108d8d610ce48d6b478033fbc2c3e46cbc608d5a1168dba5c7"), looks := false }, kinds := [], alts := [], laidByText := true, laidKinds := [.data], laidTests := true, laidLooks := .later }
def LwwNamesCardSaid : Prop := Claim7.holds Tryz.pinned (.plain (OpenSpec.ofChange lwwNamesSpec)) lwwNamesCard

/-- THE TIED CARD OF 'braidlaw09.DagMakes'. -/
def dagMakesCard : Claim7 := { stood := { row := dagMakesRow, standIns := [], harness := (true, "c0b62d8bd913f1108d8d610ce48d6b478033fbc2c3e46cbc608d5a1168dba5c7"), looks := false }, kinds := [], alts := [], laidByText := true, laidKinds := [.data], laidTests := true, laidLooks := .later }
def DagMakesCardSaid : Prop := Claim7.holds Tryz.pinned (.plain (OpenSpec.ofChange dagMakesSpec)) dagMakesCard

/-- THE TIED CARD OF 'braidlaw09.DagOrders'. -/
def dagOrdersCard : Claim7 := { stood := { row := dagOrdersRow, standIns := [], harness := (true, "c0b62d8bd913f1108d8d610ce48d6b478033fbc2c3e46cbc608d5a1168dba5c7"), looks := false }, kinds := [], alts := [], laidByText := true, laidKinds := [.data], laidTests := true, laidLooks := .later }
def DagOrdersCardSaid : Prop := Claim7.holds Tryz.pinned (.plain (OpenSpec.ofChange dagOrdersSpec)) dagOrdersCard

/-- THE TIED CARD OF 'braidlaw09.DagUnion'. -/
def dagUnionCard : Claim7 := { stood := { row := dagUnionRow, standIns := [], harness := (true, "c0b62d8bd913f1108d8d610ce48d6b478033fbc2c3e46cbc608d5a1168dba5c7"), looks := false }, kinds := [], alts := [], laidByText := true, laidKinds := [.data], laidTests := true, laidLooks := .later }
def DagUnionCardSaid : Prop := Claim7.holds Tryz.pinned (.plain (OpenSpec.ofChange dagUnionSpec)) dagUnionCard

/-- THE SECOND FORM's CARD OF 'braidlaw22.LwwApplies'. -/
def lwwAppliesUptoCard : Claim7 := { stood := { row := lwwAppliesUptoRow, standIns := [], harness := (true, "c0b62d8bd913f1108d8d610ce48d6b478033fbc2c3e46cbc608d5a1168dba5c7"), looks := false }, kinds := [], alts := [], laidByText := true, laidKinds := [.data], laidTests := true, laidLooks := .later }
def LwwAppliesUptoCardSaid : Prop := Claim7.holds Tryz.pinned (.plain (OpenSpec.upto lwwAppliesSpec)) lwwAppliesUptoCard

/-- THE SECOND FORM's CARD OF 'braidlaw22.LwwDoes'. -/
def lwwDoesUptoCard : Claim7 := { stood := { row := lwwDoesUptoRow, standIns := [], harness := (true, "c0b62d8bd913f1108d8d610ce48d6b478033fbc2c3e46cbc608d5a1168dba5c7"), looks := false }, kinds := [], alts := [], laidByText := true, laidKinds := [.data], laidTests := true, laidLooks := .later }
def LwwDoesUptoCardSaid : Prop := Claim7.holds Tryz.pinned (.plain (OpenSpec.upto lwwDoesSpec)) lwwDoesUptoCard

/-- THE SECOND FORM's CARD OF 'braidlaw22.LwwSees'. -/
def lwwSeesUptoCard : Claim7 := { stood := { row := lwwSeesUptoRow, standIns := [], harness := (true, "c0b62d8bd913f1108d8d610ce48d6b478033fbc2c3e46cbc608d5a1168dba5c7"), looks := false }, kinds := [], alts := [], laidByText := true, laidKinds := [.data], laidTests := true, laidLooks := .later }
def LwwSeesUptoCardSaid : Prop := Claim7.holds Tryz.pinned (.plain (OpenSpec.upto lwwSeesSpec)) lwwSeesUptoCard

/-- THE SECOND FORM's CARD OF 'braidlaw22.LwwOrder'. -/
def lwwOrderUptoCard : Claim7 := { stood := { row := lwwOrderUptoRow, standIns := [], harness := (true, "c0b62d8bd913f1108d8d610ce48d6b478033fbc2c3e46cbc608d5a1168dba5c7"), looks := false }, kinds := [], alts := [], laidByText := true, laidKinds := [.data], laidTests := true, laidLooks := .later }
def LwwOrderUptoCardSaid : Prop := Claim7.holds Tryz.pinned (.plain (OpenSpec.upto lwwOrderSpec)) lwwOrderUptoCard

/-- THE SECOND FORM's CARD OF 'braidlaw22.LwwGreatest'. -/
def lwwGreatestUptoCard : Claim7 := { stood := { row := lwwGreatestUptoRow, standIns := [], harness := (true, "c0b62d8bd913f1108d8d610ce48d6b478033fbc2c3e46cbc608d5a1168dba5c7"), looks := false }, kinds := [], alts := [], laidByText := true, laidKinds := [.data], laidTests := true, laidLooks := .later }
def LwwGreatestUptoCardSaid : Prop := Claim7.holds Tryz.pinned (.plain (OpenSpec.upto lwwGreatestSpec)) lwwGreatestUptoCard

/-- THE SECOND FORM's CARD OF 'braidlaw09.DagClosed'. -/
def dagClosedUptoCard : Claim7 := { stood := { row := dagClosedUptoRow, standIns := [], harness := (true, "c0b62d8bd913f1108d8d610ce48d6b478033fbc2c3e46cbc608d5a1168dba5c7"), looks := false }, kinds := [], alts := [], laidByText := true, laidKinds := [.data], laidTests := true, laidLooks := .later }
def DagClosedUptoCardSaid : Prop := Claim7.holds Tryz.pinned (.plain (OpenSpec.upto dagClosedSpec)) dagClosedUptoCard

/-- THE SECOND FORM's CARD OF 'braidlaw22.LwwNames'. -/
def lwwNamesUptoCard : Claim7 := { stood := { row := lwwNamesUptoRow, standIns := [], harness := (true, "c0b62d8bd913f1108d8d610ce48d6b478033fbc2c3e46cbc608d5a1168dba5c7"), looks := false }, kinds := [], alts := [], laidByText := true, laidKinds := [.data], laidTests := true, laidLooks := .later }
def LwwNamesUptoCardSaid : Prop := Claim7.holds Tryz.pinned (.plain (OpenSpec.upto lwwNamesSpec)) lwwNamesUptoCard

/-- THE SECOND FORM's CARD OF 'braidlaw09.DagMakes'. -/
def dagMakesUptoCard : Claim7 := { stood := { row := dagMakesUptoRow, standIns := [], harness := (true, "c0b62d8bd913f1108d8d610ce48d6b478033fbc2c3e46cbc608d5a1168dba5c7"), looks := false }, kinds := [], alts := [], laidByText := true, laidKinds := [.data], laidTests := true, laidLooks := .later }
def DagMakesUptoCardSaid : Prop := Claim7.holds Tryz.pinned (.plain (OpenSpec.upto dagMakesSpec)) dagMakesUptoCard

/-- THE SECOND FORM's CARD OF 'braidlaw09.DagOrders'. -/
def dagOrdersUptoCard : Claim7 := { stood := { row := dagOrdersUptoRow, standIns := [], harness := (true, "c0b62d8bd913f1108d8d610ce48d6b478033fbc2c3e46cbc608d5a1168dba5c7"), looks := false }, kinds := [], alts := [], laidByText := true, laidKinds := [.data], laidTests := true, laidLooks := .later }
def DagOrdersUptoCardSaid : Prop := Claim7.holds Tryz.pinned (.plain (OpenSpec.upto dagOrdersSpec)) dagOrdersUptoCard

/-- THE SECOND FORM's CARD OF 'braidlaw09.DagUnion'. -/
def dagUnionUptoCard : Claim7 := { stood := { row := dagUnionUptoRow, standIns := [], harness := (true, "c0b62d8bd913f1108d8d610ce48d6b478033fbc2c3e46cbc608d5a1168dba5c7"), looks := false }, kinds := [], alts := [], laidByText := true, laidKinds := [.data], laidTests := true, laidLooks := .later }
def DagUnionUptoCardSaid : Prop := Claim7.holds Tryz.pinned (.plain (OpenSpec.upto dagUnionSpec)) dagUnionUptoCard
end Rows
end Go.Proofs.YtimdoffpnjdmmaaGreatDoor
