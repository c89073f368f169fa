/-
  DERIVED. GIVEN WITH THE SEED: THE CARDS: each row of YtakbhjagiofbgaaGreatDoorRows.lean that lists a variable, with what it lists TIED to the program's text (the seventh form; the later family's looks); each row that meets fmt, with fmt's text TOLD by the authors' own Lean function (tested against real Go, not proved from fmt's source: count such statements apart). THE CARD IS WHAT COUNTS. Prove the row's statement (the work); the ties are given (YtakbhjagiofbgaaGreatDoorTie.lean); close each card by the builder's one call (the guide's Derived/Test/ToyasCard.lean, 'card_holds'). Laid BY PROGRAM, IN A SANDBOX (cutbox-door.mjs). By AI agents, Wed Nov 11 2026. No macro, syntax, notation, axiom, sorry.
-/
import Derived.Test.YtakbhjagiofbgaaGreatDoorRows
import GoSem.ClaimSeven
namespace Go.Proofs.YtakbhjagiofbgaaGreatDoor
namespace Rows

/-- THE TIED CARD OF 'braidlaw22.LwwSees'. -/
def lwwSeesCard : Claim7 := { stood := { row := lwwSeesRow, standIns := [], harness := (true, "ce7f95693885aeedf13d7a480699d4088ff108c22b3656e8c28c17dc6f60b1c2"), looks := false }, kinds := [], alts := [], laidByText := true, laidKinds := [.data], laidTests := true, laidLooks := .later }
def LwwSeesCardSaid : Prop := Claim7.holds Tryz.pinned (.plain (OpenSpec.ofChange lwwSeesSpec)) lwwSeesCard

/-- THE TIED CARD OF 'braidlaw22.LwwNames'. -/
def lwwNamesCard : Claim7 := { stood := { row := lwwNamesRow, standIns := [], harness := (true, "ce7f95693885aeedf13d7a480699d4088ff108c22b3656e8c28c17dc6f60b1c2"), looks := false }, kinds := [], alts := [], laidByText := true, laidKinds := [.data], laidTests := true, laidLooks := .later }
def LwwNamesCardSaid : Prop := Claim7.holds Tryz.pinned (.plain (OpenSpec.ofChange lwwNamesSpec)) lwwNamesCard

/-- THE TIED CARD OF 'braidlaw09.DagClosed'. -/
def dagClosedCard : Claim7 := { stood := { row := dagClosedRow, standIns := [], harness := (true, "ce7f95693885aeedf13d7a480699d4088ff108c22b3656e8c28c17dc6f60b1c2"), looks := false }, kinds := [], alts := [], laidByText := true, laidKinds := [.data], laidTests := true, laidLooks := .later }
def DagClosedCardSaid : Prop := Claim7.holds Tryz.pinned (.plain (OpenSpec.ofChange dagClosedSpec)) dagClosedCard

/-- THE TIED CARD OF 'braidlaw09.DagMakes'. -/
def dagMakesCard : Claim7 := { stood := { row := dagMakesRow, standIns := [], harness := (true, "ce7f95693885aeedf13d7a480699d4088ff108c22b3656e8c28c17dc6f60b1c2"), looks := false }, kinds := [], alts := [], laidByText := true, laidKinds := [.data], laidTests := true, laidLooks := .later }
def DagMakesCardSaid : Prop := Claim7.holds Tryz.pinned (.plain (OpenSpec.ofChange dagMakesSpec)) dagMakesCard

/-- THE TIED CARD OF 'braidlaw09.DagOrders'. -/
def dagOrdersCard : Claim7 := { stood := { row := dagOrdersRow, standIns := [], harness := (true, "ce7f95693885aeedf13d7a480699d4088ff108c22b3656e8c28c17dc6f60b1c2"), looks := false }, kinds := [], alts := [], laidByText := true, laidKinds := [.data], laidTests := true, laidLooks := .later }
def DagOrdersCardSaid : Prop := Claim7.holds Tryz.pinned (.plain (OpenSpec.ofChange dagOrdersSpec)) dagOrdersCard

/-- THE TIED CARD OF 'braidlaw09.DagUnion'. -/
def dagUnionCard : Claim7 := { stood := { row := dagUnionRow, standIns := [], harness := (true, "ce7f95693885aeedf13d7a480699d4088ff108c22b3656e8c28c17dc6f60b1c2"), looks := false }, kinds := [], alts := [], laidByText := true, laidKinds := [.data], laidTests := true, laidLooks := .later }
def DagUnionCardSaid : Prop := Claim7.holds Tryz.pinned (.plain (OpenSpec.ofChange dagUnionSpec)) dagUnionCard

/-- THE TIED CARD OF 'braidlaw24.BuilderDoes'. -/
def builderDoesCard : Claim7 := { stood := { row := builderDoesRow, standIns := [], harness := (true, "ce7f95693885aeedf13d7a480699d4088ff108c22b3656e8c28c17dc6f60b1c2"), looks := false }, kinds := [], alts := [], laidByText := true, laidKinds := [.data], laidTests := true, laidLooks := .later }
def BuilderDoesCardSaid : Prop := Claim7.holds Tryz.pinned (.plain (OpenSpec.ofChange builderDoesSpec)) builderDoesCard

/-- THE TIED CARD OF 'braidlaw18.PoolDoes'. -/
def poolDoesCard : Claim7 := { stood := { row := poolDoesRow, standIns := [], harness := (true, "ce7f95693885aeedf13d7a480699d4088ff108c22b3656e8c28c17dc6f60b1c2"), looks := false }, kinds := [], alts := [], laidByText := true, laidKinds := [.data], laidTests := true, laidLooks := .later }
def PoolDoesCardSaid : Prop := Claim7.holds Tryz.pinned (.plain (OpenSpec.ofChange poolDoesSpec)) poolDoesCard

/-- THE TIED CARD OF 'braidlaw11.ShardFinds'. -/
def shardFindsCard : Claim7 := { stood := { row := shardFindsRow, standIns := [], harness := (true, "ce7f95693885aeedf13d7a480699d4088ff108c22b3656e8c28c17dc6f60b1c2"), looks := false }, kinds := [], alts := [], laidByText := true, laidKinds := [.data], laidTests := true, laidLooks := .later }
def ShardFindsCardSaid : Prop := Claim7.holds Tryz.pinned (.plain (OpenSpec.ofChange shardFindsSpec)) shardFindsCard

/-- THE TIED CARD OF 'braidlaw12.StoreFinds'. -/
def storeFindsCard : Claim7 := { stood := { row := storeFindsRow, standIns := [], harness := (true, "ce7f95693885aeedf13d7a480699d4088ff108c22b3656e8c28c17dc6f60b1c2"), looks := false }, kinds := [], alts := [], laidByText := true, laidKinds := [.data], laidTests := true, laidLooks := .later }
def StoreFindsCardSaid : Prop := Claim7.holds Tryz.pinned (.plain (OpenSpec.ofChange storeFindsSpec)) storeFindsCard

/-- THE SECOND FORM's CARD OF 'braidlaw22.LwwSees'. -/
def lwwSeesUptoCard : Claim7 := { stood := { row := lwwSeesUptoRow, standIns := [], harness := (true, "ce7f95693885aeedf13d7a480699d4088ff108c22b3656e8c28c17dc6f60b1c2"), looks := false }, kinds := [], alts := [], laidByText := true, laidKinds := [.data], laidTests := true, laidLooks := .later }
def LwwSeesUptoCardSaid : Prop := Claim7.holds Tryz.pinned (.plain (OpenSpec.upto lwwSeesSpec)) lwwSeesUptoCard

/-- THE SECOND FORM's CARD OF 'braidlaw22.LwwNames'. -/
def lwwNamesUptoCard : Claim7 := { stood := { row := lwwNamesUptoRow, standIns := [], harness := (true, "ce7f95693885aeedf13d7a480699d4088ff108c22b3656e8c28c17dc6f60b1c2"), looks := false }, kinds := [], alts := [], laidByText := true, laidKinds := [.data], laidTests := true, laidLooks := .later }
def LwwNamesUptoCardSaid : Prop := Claim7.holds Tryz.pinned (.plain (OpenSpec.upto lwwNamesSpec)) lwwNamesUptoCard

/-- THE SECOND FORM's CARD OF 'braidlaw09.DagClosed'. -/
def dagClosedUptoCard : Claim7 := { stood := { row := dagClosedUptoRow, standIns := [], harness := (true, "ce7f95693885aeedf13d7a480699d4088ff108c22b3656e8c28c17dc6f60b1c2"), looks := false }, kinds := [], alts := [], laidByText := true, laidKinds := [.data], laidTests := true, laidLooks := .later }
def DagClosedUptoCardSaid : Prop := Claim7.holds Tryz.pinned (.plain (OpenSpec.upto dagClosedSpec)) dagClosedUptoCard

/-- THE SECOND FORM's CARD OF 'braidlaw09.DagMakes'. -/
def dagMakesUptoCard : Claim7 := { stood := { row := dagMakesUptoRow, standIns := [], harness := (true, "ce7f95693885aeedf13d7a480699d4088ff108c22b3656e8c28c17dc6f60b1c2"), looks := false }, kinds := [], alts := [], laidByText := true, laidKinds := [.data], laidTests := true, laidLooks := .later }
def DagMakesUptoCardSaid : Prop := Claim7.holds Tryz.pinned (.plain (OpenSpec.upto dagMakesSpec)) dagMakesUptoCard

/-- THE SECOND FORM's CARD OF 'braidlaw09.DagOrders'. -/
def dagOrdersUptoCard : Claim7 := { stood := { row := dagOrdersUptoRow, standIns := [], harness := (true, "ce7f95693885aeedf13d7a480699d4088ff108c22b3656e8c28c17dc6f60b1c2"), looks := false }, kinds := [], alts := [], laidByText := true, laidKinds := [.data], laidTests := true, laidLooks := .later }
def DagOrdersUptoCardSaid : Prop := Claim7.holds Tryz.pinned (.plain (OpenSpec.upto dagOrdersSpec)) dagOrdersUptoCard

/-- THE SECOND FORM's CARD OF 'braidlaw09.DagUnion'. -/
def dagUnionUptoCard : Claim7 := { stood := { row := dagUnionUptoRow, standIns := [], harness := (true, "ce7f95693885aeedf13d7a480699d4088ff108c22b3656e8c28c17dc6f60b1c2"), looks := false }, kinds := [], alts := [], laidByText := true, laidKinds := [.data], laidTests := true, laidLooks := .later }
def DagUnionUptoCardSaid : Prop := Claim7.holds Tryz.pinned (.plain (OpenSpec.upto dagUnionSpec)) dagUnionUptoCard

/-- THE SECOND FORM's CARD OF 'braidlaw24.BuilderDoes'. -/
def builderDoesUptoCard : Claim7 := { stood := { row := builderDoesUptoRow, standIns := [], harness := (true, "ce7f95693885aeedf13d7a480699d4088ff108c22b3656e8c28c17dc6f60b1c2"), looks := false }, kinds := [], alts := [], laidByText := true, laidKinds := [.data], laidTests := true, laidLooks := .later }
def BuilderDoesUptoCardSaid : Prop := Claim7.holds Tryz.pinned (.plain (OpenSpec.upto builderDoesSpec)) builderDoesUptoCard

/-- THE SECOND FORM's CARD OF 'braidlaw18.PoolDoes'. -/
def poolDoesUptoCard : Claim7 := { stood := { row := poolDoesUptoRow, standIns := [], harness := (true, "ce7f95693885aeedf13d7a480699d4088ff108c22b3656e8c28c17dc6f60b1c2"), looks := false }, kinds := [], alts := [], laidByText := true, laidKinds := [.data], laidTests := true, laidLooks := .later }
def PoolDoesUptoCardSaid : Prop := Claim7.holds Tryz.pinned (.plain (OpenSpec.upto poolDoesSpec)) poolDoesUptoCard

/-- THE SECOND FORM's CARD OF 'braidlaw11.ShardFinds'. -/
def shardFindsUptoCard : Claim7 := { stood := { row := shardFindsUptoRow, standIns := [], harness := (true, "ce7f95693885aeedf13d7a480699d4088ff108c22b3656e8c28c17dc6f60b1c2"), looks := false }, kinds := [], alts := [], laidByText := true, laidKinds := [.data], laidTests := true, laidLooks := .later }
def ShardFindsUptoCardSaid : Prop := Claim7.holds Tryz.pinned (.plain (OpenSpec.upto shardFindsSpec)) shardFindsUptoCard

/-- THE SECOND FORM's CARD OF 'braidlaw12.StoreFinds'. -/
def storeFindsUptoCard : Claim7 := { stood := { row := storeFindsUptoRow, standIns := [], harness := (true, "ce7f95693885aeedf13d7a480699d4088ff108c22b3656e8c28c17dc6f60b1c2"), looks := false }, kinds := [], alts := [], laidByText := true, laidKinds := [.data], laidTests := true, laidLooks := .later }
def StoreFindsUptoCardSaid : Prop := Claim7.holds Tryz.pinned (.plain (OpenSpec.upto storeFindsSpec)) storeFindsUptoCard
end Rows
end Go.Proofs.YtakbhjagiofbgaaGreatDoor
