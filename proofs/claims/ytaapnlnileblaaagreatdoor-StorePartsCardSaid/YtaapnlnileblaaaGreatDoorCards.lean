/-
  DERIVED. GIVEN WITH THE SEED: THE CARDS: each row of YtaapnlnileblaaaGreatDoorRows.lean that lists a variable, with what it lists TIED to the program's text (the seventh form; the later family's looks); each row that meets fmt, with fmt's text TOLD by the authors' own Lean function (tested against real Go, not proved from fmt's source: count such statements apart). THE CARD IS WHAT COUNTS. Prove the row's statement (the work); the ties are given (YtaapnlnileblaaaGreatDoorTie.lean); close each card by the builder's one call (the guide's Derived/Test/ToyasCard.lean, 'card_holds'). Laid BY PROGRAM, IN A SANDBOX (cutbox-door.mjs). By AI agents, Wed Nov 11 2026. No macro, syntax, notation, axiom, sorry.
-/
import Derived.Test.YtaapnlnileblaaaGreatDoorRows
import GoSem.ClaimSeven
namespace Go.Proofs.YtaapnlnileblaaaGreatDoor
namespace Rows

/-- THE TIED CARD OF 'braidlaw12.StoreFinds'. -/
def storeFindsCard : Claim7 := { stood := { row := storeFindsRow, standIns := [], harness := (true, "834974f09f41892157c36901e70b4ab6f14d5290977dc85458caf343113352fd"), looks := false }, kinds := [], alts := [], laidByText := true, laidKinds := [.data], laidTests := true, laidLooks := .later }
def StoreFindsCardSaid : Prop := Claim7.holds Tryz.pinned (.plain (OpenSpec.ofChange storeFindsSpec)) storeFindsCard

/-- THE TIED CARD OF 'braidlaw12.StoreOffers'. -/
def storeOffersCard : Claim7 := { stood := { row := storeOffersRow, standIns := [], harness := (true, "834974f09f41892157c36901e70b4ab6f14d5290977dc85458caf343113352fd"), looks := false }, kinds := [], alts := [], laidByText := true, laidKinds := [.data], laidTests := true, laidLooks := .later }
def StoreOffersCardSaid : Prop := Claim7.holds Tryz.pinned (.plain (OpenSpec.ofChange storeOffersSpec)) storeOffersCard

/-- THE TIED CARD OF 'braidlaw12.StoreParts'. -/
def storePartsCard : Claim7 := { stood := { row := storePartsRow, standIns := [], harness := (true, "834974f09f41892157c36901e70b4ab6f14d5290977dc85458caf343113352fd"), looks := false }, kinds := [], alts := [], laidByText := true, laidKinds := [.data], laidTests := true, laidLooks := .later }
def StorePartsCardSaid : Prop := Claim7.holds Tryz.pinned (.plain (OpenSpec.ofChange storePartsSpec)) storePartsCard

/-- THE TIED CARD OF 'braidlaw12.StoreFirst'. -/
def storeFirstCard : Claim7 := { stood := { row := storeFirstRow, standIns := [], harness := (true, "834974f09f41892157c36901e70b4ab6f14d5290977dc85458caf343113352fd"), looks := false }, kinds := [], alts := [], laidByText := true, laidKinds := [.data], laidTests := true, laidLooks := .later }
def StoreFirstCardSaid : Prop := Claim7.holds Tryz.pinned (.plain (OpenSpec.ofChange storeFirstSpec)) storeFirstCard

/-- THE TIED CARD OF 'braidlaw12.StoreShards'. -/
def storeShardsCard : Claim7 := { stood := { row := storeShardsRow, standIns := [], harness := (true, "834974f09f41892157c36901e70b4ab6f14d5290977dc85458caf343113352fd"), looks := false }, kinds := [], alts := [], laidByText := true, laidKinds := [.data], laidTests := true, laidLooks := .later }
def StoreShardsCardSaid : Prop := Claim7.holds Tryz.pinned (.plain (OpenSpec.ofChange storeShardsSpec)) storeShardsCard

/-- THE TIED CARD OF 'braidlaw12.StoreNames'. -/
def storeNamesCard : Claim7 := { stood := { row := storeNamesRow, standIns := [], harness := (true, "834974f09f41892157c36901e70b4ab6f14d5290977dc85458caf343113352fd"), looks := false }, kinds := [], alts := [], laidByText := true, laidKinds := [.data], laidTests := true, laidLooks := .later }
def StoreNamesCardSaid : Prop := Claim7.holds Tryz.pinned (.plain (OpenSpec.ofChange storeNamesSpec)) storeNamesCard

/-- THE TIED CARD OF 'braidlaw12.StoreMissing'. -/
def storeMissingCard : Claim7 := { stood := { row := storeMissingRow, standIns := [], harness := (true, "834974f09f41892157c36901e70b4ab6f14d5290977dc85458caf343113352fd"), looks := false }, kinds := [], alts := [], laidByText := true, laidKinds := [.data], laidTests := true, laidLooks := .later }
def StoreMissingCardSaid : Prop := Claim7.holds Tryz.pinned (.plain (OpenSpec.ofChange storeMissingSpec)) storeMissingCard

/-- THE TIED CARD OF 'braidlaw24.BuilderWrites'. -/
def builderWritesCard : Claim7 := { stood := { row := builderWritesRow, standIns := [], harness := (true, "834974f09f41892157c36901e70b4ab6f14d5290977dc85458caf343113352fd"), looks := false }, kinds := [], alts := [], laidByText := true, laidKinds := [.data], laidTests := true, laidLooks := .later }
def BuilderWritesCardSaid : Prop := Claim7.holds Tryz.pinned (.plain (OpenSpec.ofChange builderWritesSpec)) builderWritesCard

/-- THE TIED CARD OF 'braidlaw24.BuilderNames'. -/
def builderNamesCard : Claim7 := { stood := { row := builderNamesRow, standIns := [], harness := (true, "834974f09f41892157c36901e70b4ab6f14d5290977dc85458caf343113352fd"), looks := false }, kinds := [], alts := [], laidByText := true, laidKinds := [.data], laidTests := true, laidLooks := .later }
def BuilderNamesCardSaid : Prop := Claim7.holds Tryz.pinned (.plain (OpenSpec.ofChange builderNamesSpec)) builderNamesCard

/-- THE TIED CARD OF 'braidlaw24.BuilderBytes'. -/
def builderBytesCard : Claim7 := { stood := { row := builderBytesRow, standIns := [], harness := (true, "834974f09f41892157c36901e70b4ab6f14d5290977dc85458caf343113352fd"), looks := false }, kinds := [], alts := [], laidByText := true, laidKinds := [.data], laidTests := true, laidLooks := .later }
def BuilderBytesCardSaid : Prop := Claim7.holds Tryz.pinned (.plain (OpenSpec.ofChange builderBytesSpec)) builderBytesCard

/-- THE TIED CARD OF 'braidlaw24.BuilderCommits'. -/
def builderCommitsCard : Claim7 := { stood := { row := builderCommitsRow, standIns := [], harness := (true, "834974f09f41892157c36901e70b4ab6f14d5290977dc85458caf343113352fd"), looks := false }, kinds := [], alts := [], laidByText := true, laidKinds := [.data], laidTests := true, laidLooks := .later }
def BuilderCommitsCardSaid : Prop := Claim7.holds Tryz.pinned (.plain (OpenSpec.ofChange builderCommitsSpec)) builderCommitsCard

/-- THE TIED CARD OF 'braidlaw24.BuilderLater'. -/
def builderLaterCard : Claim7 := { stood := { row := builderLaterRow, standIns := [], harness := (true, "834974f09f41892157c36901e70b4ab6f14d5290977dc85458caf343113352fd"), looks := false }, kinds := [], alts := [], laidByText := true, laidKinds := [.data], laidTests := true, laidLooks := .later }
def BuilderLaterCardSaid : Prop := Claim7.holds Tryz.pinned (.plain (OpenSpec.ofChange builderLaterSpec)) builderLaterCard

/-- THE SECOND FORM's CARD OF 'braidlaw12.StoreFinds'. -/
def storeFindsUptoCard : Claim7 := { stood := { row := storeFindsUptoRow, standIns := [], harness := (true, "834974f09f41892157c36901e70b4ab6f14d5290977dc85458caf343113352fd"), looks := false }, kinds := [], alts := [], laidByText := true, laidKinds := [.data], laidTests := true, laidLooks := .later }
def StoreFindsUptoCardSaid : Prop := Claim7.holds Tryz.pinned (.plain (OpenSpec.upto storeFindsSpec)) storeFindsUptoCard

/-- THE SECOND FORM's CARD OF 'braidlaw12.StoreOffers'. -/
def storeOffersUptoCard : Claim7 := { stood := { row := storeOffersUptoRow, standIns := [], harness := (true, "834974f09f41892157c36901e70b4ab6f14d5290977dc85458caf343113352fd"), looks := false }, kinds := [], alts := [], laidByText := true, laidKinds := [.data], laidTests := true, laidLooks := .later }
def StoreOffersUptoCardSaid : Prop := Claim7.holds Tryz.pinned (.plain (OpenSpec.upto storeOffersSpec)) storeOffersUptoCard

/-- THE SECOND FORM's CARD OF 'braidlaw12.StoreParts'. -/
def storePartsUptoCard : Claim7 := { stood := { row := storePartsUptoRow, standIns := [], harness := (true, "834974f09f41892157c36901e70b4ab6f14d5290977dc85458caf343113352fd"), looks := false }, kinds := [], alts := [], laidByText := true, laidKinds := [.data], laidTests := true, laidLooks := .later }
def StorePartsUptoCardSaid : Prop := Claim7.holds Tryz.pinned (.plain (OpenSpec.upto storePartsSpec)) storePartsUptoCard

/-- THE SECOND FORM's CARD OF 'braidlaw12.StoreFirst'. -/
def storeFirstUptoCard : Claim7 := { stood := { row := storeFirstUptoRow, standIns := [], harness := (true, "834974f09f41892157c36901e70b4ab6f14d5290977dc85458caf343113352fd"), looks := false }, kinds := [], alts := [], laidByText := true, laidKinds := [.data], laidTests := true, laidLooks := .later }
def StoreFirstUptoCardSaid : Prop := Claim7.holds Tryz.pinned (.plain (OpenSpec.upto storeFirstSpec)) storeFirstUptoCard

/-- THE SECOND FORM's CARD OF 'braidlaw12.StoreShards'. -/
def storeShardsUptoCard : Claim7 := { stood := { row := storeShardsUptoRow, standIns := [], harness := (true, "834974f09f41892157c36901e70b4ab6f14d5290977dc85458caf343113352fd"), looks := false }, kinds := [], alts := [], laidByText := true, laidKinds := [.data], laidTests := true, laidLooks := .later }
def StoreShardsUptoCardSaid : Prop := Claim7.holds Tryz.pinned (.plain (OpenSpec.upto storeShardsSpec)) storeShardsUptoCard

/-- THE SECOND FORM's CARD OF 'braidlaw12.StoreNames'. -/
def storeNamesUptoCard : Claim7 := { stood := { row := storeNamesUptoRow, standIns := [], harness := (true, "834974f09f41892157c36901e70b4ab6f14d5290977dc85458caf343113352fd"), looks := false }, kinds := [], alts := [], laidByText := true, laidKinds := [.data], laidTests := true, laidLooks := .later }
def StoreNamesUptoCardSaid : Prop := Claim7.holds Tryz.pinned (.plain (OpenSpec.upto storeNamesSpec)) storeNamesUptoCard

/-- THE SECOND FORM's CARD OF 'braidlaw12.StoreMissing'. -/
def storeMissingUptoCard : Claim7 := { stood := { row := storeMissingUptoRow, standIns := [], harness := (true, "834974f09f41892157c36901e70b4ab6f14d5290977dc85458caf343113352fd"), looks := false }, kinds := [], alts := [], laidByText := true, laidKinds := [.data], laidTests := true, laidLooks := .later }
def StoreMissingUptoCardSaid : Prop := Claim7.holds Tryz.pinned (.plain (OpenSpec.upto storeMissingSpec)) storeMissingUptoCard

/-- THE SECOND FORM's CARD OF 'braidlaw24.BuilderWrites'. -/
def builderWritesUptoCard : Claim7 := { stood := { row := builderWritesUptoRow, standIns := [], harness := (true, "834974f09f41892157c36901e70b4ab6f14d5290977dc85458caf343113352fd"), looks := false }, kinds := [], alts := [], laidByText := true, laidKinds := [.data], laidTests := true, laidLooks := .later }
def BuilderWritesUptoCardSaid : Prop := Claim7.holds Tryz.pinned (.plain (OpenSpec.upto builderWritesSpec)) builderWritesUptoCard

/-- THE SECOND FORM's CARD OF 'braidlaw24.BuilderNames'. -/
def builderNamesUptoCard : Claim7 := { stood := { row := builderNamesUptoRow, standIns := [], harness := (true, "834974f09f41892157c36901e70b4ab6f14d5290977dc85458caf343113352fd"), looks := false }, kinds := [], alts := [], laidByText := true, laidKinds := [.data], laidTests := true, laidLooks := .later }
def BuilderNamesUptoCardSaid : Prop := Claim7.holds Tryz.pinned (.plain (OpenSpec.upto builderNamesSpec)) builderNamesUptoCard

/-- THE SECOND FORM's CARD OF 'braidlaw24.BuilderBytes'. -/
def builderBytesUptoCard : Claim7 := { stood := { row := builderBytesUptoRow, standIns := [], harness := (true, "834974f09f41892157c36901e70b4ab6f14d5290977dc85458caf343113352fd"), looks := false }, kinds := [], alts := [], laidByText := true, laidKinds := [.data], laidTests := true, laidLooks := .later }
def BuilderBytesUptoCardSaid : Prop := Claim7.holds Tryz.pinned (.plain (OpenSpec.upto builderBytesSpec)) builderBytesUptoCard

/-- THE SECOND FORM's CARD OF 'braidlaw24.BuilderCommits'. -/
def builderCommitsUptoCard : Claim7 := { stood := { row := builderCommitsUptoRow, standIns := [], harness := (true, "834974f09f41892157c36901e70b4ab6f14d5290977dc85458caf343113352fd"), looks := false }, kinds := [], alts := [], laidByText := true, laidKinds := [.data], laidTests := true, laidLooks := .later }
def BuilderCommitsUptoCardSaid : Prop := Claim7.holds Tryz.pinned (.plain (OpenSpec.upto builderCommitsSpec)) builderCommitsUptoCard

/-- THE SECOND FORM's CARD OF 'braidlaw24.BuilderLater'. -/
def builderLaterUptoCard : Claim7 := { stood := { row := builderLaterUptoRow, standIns := [], harness := (true, "834974f09f41892157c36901e70b4ab6f14d5290977dc85458caf343113352fd"), looks := false }, kinds := [], alts := [], laidByText := true, laidKinds := [.data], laidTests := true, laidLooks := .later }
def BuilderLaterUptoCardSaid : Prop := Claim7.holds Tryz.pinned (.plain (OpenSpec.upto builderLaterSpec)) builderLaterUptoCard
end Rows
end Go.Proofs.YtaapnlnileblaaaGreatDoor
