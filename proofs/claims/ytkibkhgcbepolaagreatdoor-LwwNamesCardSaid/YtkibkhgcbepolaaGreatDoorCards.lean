/-
  DERIVED. GIVEN WITH THE SEED: THE CARDS: each row of YtkibkhgcbepolaaGreatDoorRows.lean that lists a variable, with what it lists TIED to the program's text (the seventh form; the later family's looks); each row that meets fmt, with fmt's text TOLD by the authors' own Lean function (tested against real Go, not proved from fmt's source: count such statements apart). THE CARD IS WHAT COUNTS. Prove the row's statement (the work); the ties are given (YtkibkhgcbepolaaGreatDoorTie.lean); close each card by the builder's one call (the guide's Derived/Test/ToyasCard.lean, 'card_holds'). Laid BY PROGRAM, IN A SANDBOX (cutbox-door.mjs). By AI agents, Wed Nov 11 2026. No macro, syntax, notation, axiom, sorry.
-/
import Derived.Test.YtkibkhgcbepolaaGreatDoorRows
import GoSem.ClaimSeven
namespace Go.Proofs.YtkibkhgcbepolaaGreatDoor
namespace Rows

/-- THE TIED CARD OF 'braidlaw24.BuilderNames'. -/
def builderNamesCard : Claim7 := { stood := { row := builderNamesRow, standIns := [], harness := (true, "80697c5a864b28f4e8d318d7c2bc416807c3696c6fd9433de8548c8d3cf80fcb"), looks := false }, kinds := [], alts := [], laidByText := true, laidKinds := [.data], laidTests := true, laidLooks := .later }
def BuilderNamesCardSaid : Prop := Claim7.holds Tryz.pinned (.plain (OpenSpec.ofChange builderNamesSpec)) builderNamesCard

/-- THE TIED CARD OF 'braidlaw24.BuilderBytes'. -/
def builderBytesCard : Claim7 := { stood := { row := builderBytesRow, standIns := [], harness := (true, "80697c5a864b28f4e8d318d7c2bc416807c3696c6fd9433de8548c8d3cf80fcb"), looks := false }, kinds := [], alts := [], laidByText := true, laidKinds := [.data], laidTests := true, laidLooks := .later }
def BuilderBytesCardSaid : Prop := Claim7.holds Tryz.pinned (.plain (OpenSpec.ofChange builderBytesSpec)) builderBytesCard

/-- THE TIED CARD OF 'braidlaw24.BuilderCommits'. -/
def builderCommitsCard : Claim7 := { stood := { row := builderCommitsRow, standIns := [], harness := (true, "80697c5a864b28f4e8d318d7c2bc416807c3696c6fd9433de8548c8d3cf80fcb"), looks := false }, kinds := [], alts := [], laidByText := true, laidKinds := [.data], laidTests := true, laidLooks := .later }
def BuilderCommitsCardSaid : Prop := Claim7.holds Tryz.pinned (.plain (OpenSpec.ofChange builderCommitsSpec)) builderCommitsCard

/-- THE TIED CARD OF 'braidlaw24.BuilderLater'. -/
def builderLaterCard : Claim7 := { stood := { row := builderLaterRow, standIns := [], harness := (true, "80697c5a864b28f4e8d318d7c2bc416807c3696c6fd9433de8548c8d3cf80fcb"), looks := false }, kinds := [], alts := [], laidByText := true, laidKinds := [.data], laidTests := true, laidLooks := .later }
def BuilderLaterCardSaid : Prop := Claim7.holds Tryz.pinned (.plain (OpenSpec.ofChange builderLaterSpec)) builderLaterCard

/-- THE TIED CARD OF 'braidlaw12.StoreNames'. -/
def storeNamesCard : Claim7 := { stood := { row := storeNamesRow, standIns := [], harness := (true, "80697c5a864b28f4e8d318d7c2bc416807c3696c6fd9433de8548c8d3cf80fcb"), looks := false }, kinds := [], alts := [], laidByText := true, laidKinds := [.data], laidTests := true, laidLooks := .later }
def StoreNamesCardSaid : Prop := Claim7.holds Tryz.pinned (.plain (OpenSpec.ofChange storeNamesSpec)) storeNamesCard

/-- THE TIED CARD OF 'braidlaw18.PoolNames'. -/
def poolNamesCard : Claim7 := { stood := { row := poolNamesRow, standIns := [], harness := (true, "80697c5a864b28f4e8d318d7c2bc416807c3696c6fd9433de8548c8d3cf80fcb"), looks := false }, kinds := [], alts := [], laidByText := true, laidKinds := [.data], laidTests := true, laidLooks := .later }
def PoolNamesCardSaid : Prop := Claim7.holds Tryz.pinned (.plain (OpenSpec.ofChange poolNamesSpec)) poolNamesCard

/-- THE TIED CARD OF 'braidlaw22.LwwNames'. -/
def lwwNamesCard : Claim7 := { stood := { row := lwwNamesRow, standIns := [], harness := (true, "80697c5a864b28f4e8d318d7c2bc416807c3696c6fd9433de8548c8d3cf80fcb"), looks := false }, kinds := [], alts := [], laidByText := true, laidKinds := [.data], laidTests := true, laidLooks := .later }
def LwwNamesCardSaid : Prop := Claim7.holds Tryz.pinned (.plain (OpenSpec.ofChange lwwNamesSpec)) lwwNamesCard

/-- THE TIED CARD OF 'braidlaw11.ShardNames'. -/
def shardNamesCard : Claim7 := { stood := { row := shardNamesRow, standIns := [], harness := (true, "80697c5a864b28f4e8d318d7c2bc416807c3696c6fd9433de8548c8d3cf80fcb"), looks := false }, kinds := [], alts := [], laidByText := true, laidKinds := [.data], laidTests := true, laidLooks := .later }
def ShardNamesCardSaid : Prop := Claim7.holds Tryz.pinned (.plain (OpenSpec.ofChange shardNamesSpec)) shardNamesCard

/-- THE TIED CARD OF 'braidtop.TopDag'. -/
def topDagCard : Claim7 := { stood := { row := topDagRow, standIns := [], harness := (true, "80697c5a864b28f4e8d318d7c2bc416807c3696c6fd9433de8548c8d3cf80fcb"), looks := false }, kinds := [], alts := [], laidByText := true, laidKinds := [.data], laidTests := true, laidLooks := .later }
def TopDagCardSaid : Prop := Claim7.holds Tryz.pinned (.plain (OpenSpec.ofChange topDagSpec)) topDagCard

/-- THE SECOND FORM's CARD OF 'braidlaw24.BuilderNames'. -/
def builderNamesUptoCard : Claim7 := { stood := { row := builderNamesUptoRow, standIns := [], harness := (true, "80697c5a864b28f4e8d318d7c2bc416807c3696c6fd9433de8548c8d3cf80fcb"), looks := false }, kinds := [], alts := [], laidByText := true, laidKinds := [.data], laidTests := true, laidLooks := .later }
def BuilderNamesUptoCardSaid : Prop := Claim7.holds Tryz.pinned (.plain (OpenSpec.upto builderNamesSpec)) builderNamesUptoCard

/-- THE SECOND FORM's CARD OF 'braidlaw24.BuilderBytes'. -/
def builderBytesUptoCard : Claim7 := { stood := { row := builderBytesUptoRow, standIns := [], harness := (true, "80697c5a864b28f4e8d318d7c2bc416807c3696c6fd9433de8548c8d3cf80fcb"), looks := false }, kinds := [], alts := [], laidByText := true, laidKinds := [.data], laidTests := true, laidLooks := .later }
def BuilderBytesUptoCardSaid : Prop := Claim7.holds Tryz.pinned (.plain (OpenSpec.upto builderBytesSpec)) builderBytesUptoCard

/-- THE SECOND FORM's CARD OF 'braidlaw24.BuilderCommits'. -/
def builderCommitsUptoCard : Claim7 := { stood := { row := builderCommitsUptoRow, standIns := [], harness := (true, "80697c5a864b28f4e8d318d7c2bc416807c3696c6fd9433de8548c8d3cf80fcb"), looks := false }, kinds := [], alts := [], laidByText := true, laidKinds := [.data], laidTests := true, laidLooks := .later }
def BuilderCommitsUptoCardSaid : Prop := Claim7.holds Tryz.pinned (.plain (OpenSpec.upto builderCommitsSpec)) builderCommitsUptoCard

/-- THE SECOND FORM's CARD OF 'braidlaw24.BuilderLater'. -/
def builderLaterUptoCard : Claim7 := { stood := { row := builderLaterUptoRow, standIns := [], harness := (true, "80697c5a864b28f4e8d318d7c2bc416807c3696c6fd9433de8548c8d3cf80fcb"), looks := false }, kinds := [], alts := [], laidByText := true, laidKinds := [.data], laidTests := true, laidLooks := .later }
def BuilderLaterUptoCardSaid : Prop := Claim7.holds Tryz.pinned (.plain (OpenSpec.upto builderLaterSpec)) builderLaterUptoCard

/-- THE SECOND FORM's CARD OF 'braidlaw12.StoreNames'. -/
def storeNamesUptoCard : Claim7 := { stood := { row := storeNamesUptoRow, standIns := [], harness := (true, "80697c5a864b28f4e8d318d7c2bc416807c3696c6fd9433de8548c8d3cf80fcb"), looks := false }, kinds := [], alts := [], laidByText := true, laidKinds := [.data], laidTests := true, laidLooks := .later }
def StoreNamesUptoCardSaid : Prop := Claim7.holds Tryz.pinned (.plain (OpenSpec.upto storeNamesSpec)) storeNamesUptoCard

/-- THE SECOND FORM's CARD OF 'braidlaw18.PoolNames'. -/
def poolNamesUptoCard : Claim7 := { stood := { row := poolNamesUptoRow, standIns := [], harness := (true, "80697c5a864b28f4e8d318d7c2bc416807c3696c6fd9433de8548c8d3cf80fcb"), looks := false }, kinds := [], alts := [], laidByText := true, laidKinds := [.data], laidTests := true, laidLooks := .later }
def PoolNamesUptoCardSaid : Prop := Claim7.holds Tryz.pinned (.plain (OpenSpec.upto poolNamesSpec)) poolNamesUptoCard

/-- THE SECOND FORM's CARD OF 'braidlaw22.LwwNames'. -/
def lwwNamesUptoCard : Claim7 := { stood := { row := lwwNamesUptoRow, standIns := [], harness := (true, "80697c5a864b28f4e8d318d7c2bc416807c3696c6fd9433de8548c8d3cf80fcb"), looks := false }, kinds := [], alts := [], laidByText := true, laidKinds := [.data], laidTests := true, laidLooks := .later }
def LwwNamesUptoCardSaid : Prop := Claim7.holds Tryz.pinned (.plain (OpenSpec.upto lwwNamesSpec)) lwwNamesUptoCard

/-- THE SECOND FORM's CARD OF 'braidlaw11.ShardNames'. -/
def shardNamesUptoCard : Claim7 := { stood := { row := shardNamesUptoRow, standIns := [], harness := (true, "80697c5a864b28f4e8d318d7c2bc416807c3696c6fd9433de8548c8d3cf80fcb"), looks := false }, kinds := [], alts := [], laidByText := true, laidKinds := [.data], laidTests := true, laidLooks := .later }
def ShardNamesUptoCardSaid : Prop := Claim7.holds Tryz.pinned (.plain (OpenSpec.upto shardNamesSpec)) shardNamesUptoCard

/-- THE SECOND FORM's CARD OF 'braidtop.TopDag'. -/
def topDagUptoCard : Claim7 := { stood := { row := topDagUptoRow, standIns := [], harness := (true, "80697c5a864b28f4e8d318d7c2bc416807c3696c6fd9433de8548c8d3cf80fcb"), looks := false }, kinds := [], alts := [], laidByText := true, laidKinds := [.data], laidTests := true, laidLooks := .later }
def TopDagUptoCardSaid : Prop := Claim7.holds Tryz.pinned (.plain (OpenSpec.upto topDagSpec)) topDagUptoCard
end Rows
end Go.Proofs.YtkibkhgcbepolaaGreatDoor
