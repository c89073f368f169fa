/-
  DERIVED. GIVEN WITH THE SEED: THE CARDS: each row of YtkmgnmebadghbaaGreatDoorRows.lean that lists a variable, with what it lists TIED to the program's text (the seventh form; the later family's looks); each row that meets fmt, with fmt's text TOLD by the authors' own Lean function (tested against real Go, not proved from fmt's source: count such statements apart). THE CARD IS WHAT COUNTS. Prove the row's statement (the work); the ties are given (YtkmgnmebadghbaaGreatDoorTie.lean); close each card by the builder's one call (the guide's Derived/Test/ToyasCard.lean, 'card_holds'). Laid BY PROGRAM, IN A SANDBOX (cutbox-door.mjs). By AI agents, Wed Nov 11 2026. No macro, syntax, notation, axiom, sorry.
-/
import Derived.Test.YtkmgnmebadghbaaGreatDoorRows
import GoSem.ClaimSeven
namespace Go.Proofs.YtkmgnmebadghbaaGreatDoor
namespace Rows

/-- THE TIED CARD OF 'braidlaw11.ShardFinds'. -/
def shardFindsCard : Claim7 := { stood := { row := shardFindsRow, standIns := [], harness := (true, "b77e1e1f9fa75a27e8fe6291a7ee2c94acf9ddad987ab8ff726f635ebd6978e7"), looks := false }, kinds := [], alts := [], laidByText := true, laidKinds := [.data], laidTests := true, laidLooks := .later }
def ShardFindsCardSaid : Prop := Claim7.holds Tryz.pinned (.plain (OpenSpec.ofChange shardFindsSpec)) shardFindsCard

/-- THE TIED CARD OF 'braidlaw12.StoreFinds'. -/
def storeFindsCard : Claim7 := { stood := { row := storeFindsRow, standIns := [], harness := (true, "b77e1e1f9fa75a27e8fe6291a7ee2c94acf9ddad987ab8ff726f635ebd6978e7"), looks := false }, kinds := [], alts := [], laidByText := true, laidKinds := [.data], laidTests := true, laidLooks := .later }
def StoreFindsCardSaid : Prop := Claim7.holds Tryz.pinned (.plain (OpenSpec.ofChange storeFindsSpec)) storeFindsCard

/-- THE TIED CARD OF 'braidlaw11.ShardPuts'. -/
def shardPutsCard : Claim7 := { stood := { row := shardPutsRow, standIns := [], harness := (true, "b77e1e1f9fa75a27e8fe6291a7ee2c94acf9ddad987ab8ff726f635ebd6978e7"), looks := false }, kinds := [], alts := [], laidByText := true, laidKinds := [.data], laidTests := true, laidLooks := .later }
def ShardPutsCardSaid : Prop := Claim7.holds Tryz.pinned (.plain (OpenSpec.ofChange shardPutsSpec)) shardPutsCard

/-- THE TIED CARD OF 'braidlaw11.ShardHeads'. -/
def shardHeadsCard : Claim7 := { stood := { row := shardHeadsRow, standIns := [], harness := (true, "b77e1e1f9fa75a27e8fe6291a7ee2c94acf9ddad987ab8ff726f635ebd6978e7"), looks := false }, kinds := [], alts := [], laidByText := true, laidKinds := [.data], laidTests := true, laidLooks := .later }
def ShardHeadsCardSaid : Prop := Claim7.holds Tryz.pinned (.plain (OpenSpec.ofChange shardHeadsSpec)) shardHeadsCard

/-- THE TIED CARD OF 'braidlaw11.ShardSplit'. -/
def shardSplitCard : Claim7 := { stood := { row := shardSplitRow, standIns := [], harness := (true, "b77e1e1f9fa75a27e8fe6291a7ee2c94acf9ddad987ab8ff726f635ebd6978e7"), looks := false }, kinds := [], alts := [], laidByText := true, laidKinds := [.data], laidTests := true, laidLooks := .later }
def ShardSplitCardSaid : Prop := Claim7.holds Tryz.pinned (.plain (OpenSpec.ofChange shardSplitSpec)) shardSplitCard

/-- THE TIED CARD OF 'braidlaw12.StoreOffers'. -/
def storeOffersCard : Claim7 := { stood := { row := storeOffersRow, standIns := [], harness := (true, "b77e1e1f9fa75a27e8fe6291a7ee2c94acf9ddad987ab8ff726f635ebd6978e7"), looks := false }, kinds := [], alts := [], laidByText := true, laidKinds := [.data], laidTests := true, laidLooks := .later }
def StoreOffersCardSaid : Prop := Claim7.holds Tryz.pinned (.plain (OpenSpec.ofChange storeOffersSpec)) storeOffersCard

/-- THE TIED CARD OF 'braidlaw11.ShardOne'. -/
def shardOneCard : Claim7 := { stood := { row := shardOneRow, standIns := [], harness := (true, "b77e1e1f9fa75a27e8fe6291a7ee2c94acf9ddad987ab8ff726f635ebd6978e7"), looks := false }, kinds := [], alts := [], laidByText := true, laidKinds := [.data], laidTests := true, laidLooks := .later }
def ShardOneCardSaid : Prop := Claim7.holds Tryz.pinned (.plain (OpenSpec.ofChange shardOneSpec)) shardOneCard

/-- THE SECOND FORM's CARD OF 'braidlaw11.ShardFinds'. -/
def shardFindsUptoCard : Claim7 := { stood := { row := shardFindsUptoRow, standIns := [], harness := (true, "b77e1e1f9fa75a27e8fe6291a7ee2c94acf9ddad987ab8ff726f635ebd6978e7"), looks := false }, kinds := [], alts := [], laidByText := true, laidKinds := [.data], laidTests := true, laidLooks := .later }
def ShardFindsUptoCardSaid : Prop := Claim7.holds Tryz.pinned (.plain (OpenSpec.upto shardFindsSpec)) shardFindsUptoCard

/-- THE SECOND FORM's CARD OF 'braidlaw12.StoreFinds'. -/
def storeFindsUptoCard : Claim7 := { stood := { row := storeFindsUptoRow, standIns := [], harness := (true, "b77e1e1f9fa75a27e8fe6291a7ee2c94acf9ddad987ab8ff726f635ebd6978e7"), looks := false }, kinds := [], alts := [], laidByText := true, laidKinds := [.data], laidTests := true, laidLooks := .later }
def StoreFindsUptoCardSaid : Prop := Claim7.holds Tryz.pinned (.plain (OpenSpec.upto storeFindsSpec)) storeFindsUptoCard

/-- THE SECOND FORM's CARD OF 'braidlaw11.ShardPuts'. -/
def shardPutsUptoCard : Claim7 := { stood := { row := shardPutsUptoRow, standIns := [], harness := (true, "b77e1e1f9fa75a27e8fe6291a7ee2c94acf9ddad987ab8ff726f635ebd6978e7"), looks := false }, kinds := [], alts := [], laidByText := true, laidKinds := [.data], laidTests := true, laidLooks := .later }
def ShardPutsUptoCardSaid : Prop := Claim7.holds Tryz.pinned (.plain (OpenSpec.upto shardPutsSpec)) shardPutsUptoCard

/-- THE SECOND FORM's CARD OF 'braidlaw11.ShardHeads'. -/
def shardHeadsUptoCard : Claim7 := { stood := { row := shardHeadsUptoRow, standIns := [], harness := (true, "b77e1e1f9fa75a27e8fe6291a7ee2c94acf9ddad987ab8ff726f635ebd6978e7"), looks := false }, kinds := [], alts := [], laidByText := true, laidKinds := [.data], laidTests := true, laidLooks := .later }
def ShardHeadsUptoCardSaid : Prop := Claim7.holds Tryz.pinned (.plain (OpenSpec.upto shardHeadsSpec)) shardHeadsUptoCard

/-- THE SECOND FORM's CARD OF 'braidlaw11.ShardSplit'. -/
def shardSplitUptoCard : Claim7 := { stood := { row := shardSplitUptoRow, standIns := [], harness := (true, "b77e1e1f9fa75a27e8fe6291a7ee2c94acf9ddad987ab8ff726f635ebd6978e7"), looks := false }, kinds := [], alts := [], laidByText := true, laidKinds := [.data], laidTests := true, laidLooks := .later }
def ShardSplitUptoCardSaid : Prop := Claim7.holds Tryz.pinned (.plain (OpenSpec.upto shardSplitSpec)) shardSplitUptoCard

/-- THE SECOND FORM's CARD OF 'braidlaw12.StoreOffers'. -/
def storeOffersUptoCard : Claim7 := { stood := { row := storeOffersUptoRow, standIns := [], harness := (true, "b77e1e1f9fa75a27e8fe6291a7ee2c94acf9ddad987ab8ff726f635ebd6978e7"), looks := false }, kinds := [], alts := [], laidByText := true, laidKinds := [.data], laidTests := true, laidLooks := .later }
def StoreOffersUptoCardSaid : Prop := Claim7.holds Tryz.pinned (.plain (OpenSpec.upto storeOffersSpec)) storeOffersUptoCard

/-- THE SECOND FORM's CARD OF 'braidlaw11.ShardOne'. -/
def shardOneUptoCard : Claim7 := { stood := { row := shardOneUptoRow, standIns := [], harness := (true, "b77e1e1f9fa75a27e8fe6291a7ee2c94acf9ddad987ab8ff726f635ebd6978e7"), looks := false }, kinds := [], alts := [], laidByText := true, laidKinds := [.data], laidTests := true, laidLooks := .later }
def ShardOneUptoCardSaid : Prop := Claim7.holds Tryz.pinned (.plain (OpenSpec.upto shardOneSpec)) shardOneUptoCard
end Rows
end Go.Proofs.YtkmgnmebadghbaaGreatDoor
