/-
  DERIVED. GIVEN WITH THE SEED: THE CARDS: each row of YtkmaenmhcgohbaaGreatDoorRows.lean that lists a variable, with what it lists TIED to the program's text (the seventh form; the later family's looks); each row that meets fmt, with fmt's text TOLD by the authors' own Lean function (tested against real Go, not proved from fmt's source: count such statements apart). THE CARD IS WHAT COUNTS. Prove the row's statement (the work); the ties are given (YtkmaenmhcgohbaaGreatDoorTie.lean); close each card by the builder's one call (the guide's Derived/Test/ToyasCard.lean, 'card_holds'). Laid BY PROGRAM, IN A SANDBOX (cutbox-door.mjs). By AI agents, Wed Nov 11 2026. No macro, syntax, notation, axiom, sorry.
-/
import Derived.Test.YtkmaenmhcgohbaaGreatDoorRows
import GoSem.ClaimSeven
namespace Go.Proofs.YtkmaenmhcgohbaaGreatDoor
namespace Rows

/-- THE TIED CARD OF 'braidlaw22.LwwNames'. -/
def lwwNamesCard : Claim7 := { stood := { row := lwwNamesRow, standIns := [], harness := (true, "c25872b7cffbf7457ec9dc2fa4be7361553a3a5a9e298b58d2b7dec4524db471"), looks := false }, kinds := [], alts := [], laidByText := true, laidKinds := [.data], laidTests := true, laidLooks := .later }
def LwwNamesCardSaid : Prop := Claim7.holds Tryz.pinned (.plain (OpenSpec.ofChange lwwNamesSpec)) lwwNamesCard

/-- THE TIED CARD OF 'braidlaw11.ShardFinds'. -/
def shardFindsCard : Claim7 := { stood := { row := shardFindsRow, standIns := [], harness := (true, "c25872b7cffbf7457ec9dc2fa4be7361553a3a5a9e298b58d2b7dec4524db471"), looks := false }, kinds := [], alts := [], laidByText := true, laidKinds := [.data], laidTests := true, laidLooks := .later }
def ShardFindsCardSaid : Prop := Claim7.holds Tryz.pinned (.plain (OpenSpec.ofChange shardFindsSpec)) shardFindsCard

/-- THE TIED CARD OF 'braidlaw12.StoreFinds'. -/
def storeFindsCard : Claim7 := { stood := { row := storeFindsRow, standIns := [], harness := (true, "c25872b7cffbf7457ec9dc2fa4be7361553a3a5a9e298b58d2b7dec4524db471"), looks := false }, kinds := [], alts := [], laidByText := true, laidKinds := [.data], laidTests := true, laidLooks := .later }
def StoreFindsCardSaid : Prop := Claim7.holds Tryz.pinned (.plain (OpenSpec.ofChange storeFindsSpec)) storeFindsCard

/-- THE TIED CARD OF 'braidlaw24.BuilderWrites'. -/
def builderWritesCard : Claim7 := { stood := { row := builderWritesRow, standIns := [], harness := (true, "c25872b7cffbf7457ec9dc2fa4be7361553a3a5a9e298b58d2b7dec4524db471"), looks := false }, kinds := [], alts := [], laidByText := true, laidKinds := [.data], laidTests := true, laidLooks := .later }
def BuilderWritesCardSaid : Prop := Claim7.holds Tryz.pinned (.plain (OpenSpec.ofChange builderWritesSpec)) builderWritesCard

/-- THE TIED CARD OF 'braidlaw11.ShardPuts'. -/
def shardPutsCard : Claim7 := { stood := { row := shardPutsRow, standIns := [], harness := (true, "c25872b7cffbf7457ec9dc2fa4be7361553a3a5a9e298b58d2b7dec4524db471"), looks := false }, kinds := [], alts := [], laidByText := true, laidKinds := [.data], laidTests := true, laidLooks := .later }
def ShardPutsCardSaid : Prop := Claim7.holds Tryz.pinned (.plain (OpenSpec.ofChange shardPutsSpec)) shardPutsCard

/-- THE TIED CARD OF 'braidlaw12.StoreOffers'. -/
def storeOffersCard : Claim7 := { stood := { row := storeOffersRow, standIns := [], harness := (true, "c25872b7cffbf7457ec9dc2fa4be7361553a3a5a9e298b58d2b7dec4524db471"), looks := false }, kinds := [], alts := [], laidByText := true, laidKinds := [.data], laidTests := true, laidLooks := .later }
def StoreOffersCardSaid : Prop := Claim7.holds Tryz.pinned (.plain (OpenSpec.ofChange storeOffersSpec)) storeOffersCard

/-- THE TIED CARD OF 'braidlaw18.PoolDoes'. -/
def poolDoesCard : Claim7 := { stood := { row := poolDoesRow, standIns := [], harness := (true, "c25872b7cffbf7457ec9dc2fa4be7361553a3a5a9e298b58d2b7dec4524db471"), looks := false }, kinds := [], alts := [], laidByText := true, laidKinds := [.data], laidTests := true, laidLooks := .later }
def PoolDoesCardSaid : Prop := Claim7.holds Tryz.pinned (.plain (OpenSpec.ofChange poolDoesSpec)) poolDoesCard

/-- THE SECOND FORM's CARD OF 'braidlaw22.LwwNames'. -/
def lwwNamesUptoCard : Claim7 := { stood := { row := lwwNamesUptoRow, standIns := [], harness := (true, "c25872b7cffbf7457ec9dc2fa4be7361553a3a5a9e298b58d2b7dec4524db471"), looks := false }, kinds := [], alts := [], laidByText := true, laidKinds := [.data], laidTests := true, laidLooks := .later }
def LwwNamesUptoCardSaid : Prop := Claim7.holds Tryz.pinned (.plain (OpenSpec.upto lwwNamesSpec)) lwwNamesUptoCard

/-- THE SECOND FORM's CARD OF 'braidlaw11.ShardFinds'. -/
def shardFindsUptoCard : Claim7 := { stood := { row := shardFindsUptoRow, standIns := [], harness := (true, "c25872b7cffbf7457ec9dc2fa4be7361553a3a5a9e298b58d2b7dec4524db471"), looks := false }, kinds := [], alts := [], laidByText := true, laidKinds := [.data], laidTests := true, laidLooks := .later }
def ShardFindsUptoCardSaid : Prop := Claim7.holds Tryz.pinned (.plain (OpenSpec.upto shardFindsSpec)) shardFindsUptoCard

/-- THE SECOND FORM's CARD OF 'braidlaw12.StoreFinds'. -/
def storeFindsUptoCard : Claim7 := { stood := { row := storeFindsUptoRow, standIns := [], harness := (true, "c25872b7cffbf7457ec9dc2fa4be7361553a3a5a9e298b58d2b7dec4524db471"), looks := false }, kinds := [], alts := [], laidByText := true, laidKinds := [.data], laidTests := true, laidLooks := .later }
def StoreFindsUptoCardSaid : Prop := Claim7.holds Tryz.pinned (.plain (OpenSpec.upto storeFindsSpec)) storeFindsUptoCard

/-- THE SECOND FORM's CARD OF 'braidlaw24.BuilderWrites'. -/
def builderWritesUptoCard : Claim7 := { stood := { row := builderWritesUptoRow, standIns := [], harness := (true, "c25872b7cffbf7457ec9dc2fa4be7361553a3a5a9e298b58d2b7dec4524db471"), looks := false }, kinds := [], alts := [], laidByText := true, laidKinds := [.data], laidTests := true, laidLooks := .later }
def BuilderWritesUptoCardSaid : Prop := Claim7.holds Tryz.pinned (.plain (OpenSpec.upto builderWritesSpec)) builderWritesUptoCard

/-- THE SECOND FORM's CARD OF 'braidlaw11.ShardPuts'. -/
def shardPutsUptoCard : Claim7 := { stood := { row := shardPutsUptoRow, standIns := [], harness := (true, "c25872b7cffbf7457ec9dc2fa4be7361553a3a5a9e298b58d2b7dec4524db471"), looks := false }, kinds := [], alts := [], laidByText := true, laidKinds := [.data], laidTests := true, laidLooks := .later }
def ShardPutsUptoCardSaid : Prop := Claim7.holds Tryz.pinned (.plain (OpenSpec.upto shardPutsSpec)) shardPutsUptoCard

/-- THE SECOND FORM's CARD OF 'braidlaw12.StoreOffers'. -/
def storeOffersUptoCard : Claim7 := { stood := { row := storeOffersUptoRow, standIns := [], harness := (true, "c25872b7cffbf7457ec9dc2fa4be7361553a3a5a9e298b58d2b7dec4524db471"), looks := false }, kinds := [], alts := [], laidByText := true, laidKinds := [.data], laidTests := true, laidLooks := .later }
def StoreOffersUptoCardSaid : Prop := Claim7.holds Tryz.pinned (.plain (OpenSpec.upto storeOffersSpec)) storeOffersUptoCard

/-- THE SECOND FORM's CARD OF 'braidlaw18.PoolDoes'. -/
def poolDoesUptoCard : Claim7 := { stood := { row := poolDoesUptoRow, standIns := [], harness := (true, "c25872b7cffbf7457ec9dc2fa4be7361553a3a5a9e298b58d2b7dec4524db471"), looks := false }, kinds := [], alts := [], laidByText := true, laidKinds := [.data], laidTests := true, laidLooks := .later }
def PoolDoesUptoCardSaid : Prop := Claim7.holds Tryz.pinned (.plain (OpenSpec.upto poolDoesSpec)) poolDoesUptoCard
end Rows
end Go.Proofs.YtkmaenmhcgohbaaGreatDoor
