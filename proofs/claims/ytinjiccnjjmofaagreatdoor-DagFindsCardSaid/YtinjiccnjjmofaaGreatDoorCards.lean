/-
  DERIVED. GIVEN WITH THE SEED: THE CARDS: each row of YtinjiccnjjmofaaGreatDoorRows.lean that lists a variable, with what it lists TIED to the program's text (the seventh form; the later family's looks); each row that meets fmt, with fmt's text TOLD by the authors' own Lean function (tested against real Go, not proved from fmt's source: count such statements apart). THE CARD IS WHAT COUNTS. Prove the row's statement (the work); the ties are given (YtinjiccnjjmofaaGreatDoorTie.lean); close each card by the builder's one call (the guide's Derived/Test/ToyasCard.lean, 'card_holds'). Laid BY PROGRAM, IN A SANDBOX (cutbox-door.mjs). By AI agents, Wed Nov 11 2026. No macro, syntax, notation, axiom, sorry.
-/
import Derived.Test.YtinjiccnjjmofaaGreatDoorRows
import GoSem.ClaimSeven
namespace Go.Proofs.YtinjiccnjjmofaaGreatDoor
namespace Rows

/-- THE TIED CARD OF 'braidlaw09.DagFinds'. -/
def dagFindsCard : Claim7 := { stood := { row := dagFindsRow, standIns := [], harness := (true, "f3cd5dc4299ee7079e719df81375486d77b790af4c9558d60e9919ffa6205d06"), looks := false }, kinds := [], alts := [], laidByText := true, laidKinds := [.data], laidTests := true, laidLooks := .later }
def DagFindsCardSaid : Prop := Claim7.holds Tryz.pinned (.plain (OpenSpec.ofChange dagFindsSpec)) dagFindsCard

/-- THE TIED CARD OF 'braidlaw22.LwwDoes'. -/
def lwwDoesCard : Claim7 := { stood := { row := lwwDoesRow, standIns := [], harness := (true, "f3cd5dc4299ee7079e719df81375486d77b790af4c9558d60e9919ffa6205d06"), looks := false }, kinds := [], alts := [], laidByText := true, laidKinds := [.data], laidTests := true, laidLooks := .later }
def LwwDoesCardSaid : Prop := Claim7.holds Tryz.pinned (.plain (OpenSpec.ofChange lwwDoesSpec)) lwwDoesCard

/-- THE TIED CARD OF 'braidlaw22.LwwApplies'. -/
def lwwAppliesCard : Claim7 := { stood := { row := lwwAppliesRow, standIns := [], harness := (true, "f3cd5dc4299ee7079e719df81375486d77b790af4c9558d60e9919ffa6205d06"), looks := false }, kinds := [], alts := [], laidByText := true, laidKinds := [.data], laidTests := true, laidLooks := .later }
def LwwAppliesCardSaid : Prop := Claim7.holds Tryz.pinned (.plain (OpenSpec.ofChange lwwAppliesSpec)) lwwAppliesCard

/-- THE TIED CARD OF 'braidlaw24.BuilderDoes'. -/
def builderDoesCard : Claim7 := { stood := { row := builderDoesRow, standIns := [], harness := (true, "f3cd5dc4299ee7079e719df81375486d77b790af4c9558d60e9919ffa6205d06"), looks := false }, kinds := [], alts := [], laidByText := true, laidKinds := [.data], laidTests := true, laidLooks := .later }
def BuilderDoesCardSaid : Prop := Claim7.holds Tryz.pinned (.plain (OpenSpec.ofChange builderDoesSpec)) builderDoesCard

/-- THE TIED CARD OF 'braidlaw18.PoolDoes'. -/
def poolDoesCard : Claim7 := { stood := { row := poolDoesRow, standIns := [], harness := (true, "f3cd5dc4299ee7079e719df81375486d77b790af4c9558d60e9919ffa6205d06"), looks := false }, kinds := [], alts := [], laidByText := true, laidKinds := [.data], laidTests := true, laidLooks := .later }
def PoolDoesCardSaid : Prop := Claim7.holds Tryz.pinned (.plain (OpenSpec.ofChange poolDoesSpec)) poolDoesCard

/-- THE SECOND FORM's CARD OF 'braidlaw09.DagFinds'. -/
def dagFindsUptoCard : Claim7 := { stood := { row := dagFindsUptoRow, standIns := [], harness := (true, "f3cd5dc4299ee7079e719df81375486d77b790af4c9558d60e9919ffa6205d06"), looks := false }, kinds := [], alts := [], laidByText := true, laidKinds := [.data], laidTests := true, laidLooks := .later }
def DagFindsUptoCardSaid : Prop := Claim7.holds Tryz.pinned (.plain (OpenSpec.upto dagFindsSpec)) dagFindsUptoCard

/-- THE SECOND FORM's CARD OF 'braidlaw22.LwwDoes'. -/
def lwwDoesUptoCard : Claim7 := { stood := { row := lwwDoesUptoRow, standIns := [], harness := (true, "f3cd5dc4299ee7079e719df81375486d77b790af4c9558d60e9919ffa6205d06"), looks := false }, kinds := [], alts := [], laidByText := true, laidKinds := [.data], laidTests := true, laidLooks := .later }
def LwwDoesUptoCardSaid : Prop := Claim7.holds Tryz.pinned (.plain (OpenSpec.upto lwwDoesSpec)) lwwDoesUptoCard

/-- THE SECOND FORM's CARD OF 'braidlaw22.LwwApplies'. -/
def lwwAppliesUptoCard : Claim7 := { stood := { row := lwwAppliesUptoRow, standIns := [], harness := (true, "f3cd5dc4299ee7079e719df81375486d77b790af4c9558d60e9919ffa6205d06"), looks := false }, kinds := [], alts := [], laidByText := true, laidKinds := [.data], laidTests := true, laidLooks := .later }
def LwwAppliesUptoCardSaid : Prop := Claim7.holds Tryz.pinned (.plain (OpenSpec.upto lwwAppliesSpec)) lwwAppliesUptoCard

/-- THE SECOND FORM's CARD OF 'braidlaw24.BuilderDoes'. -/
def builderDoesUptoCard : Claim7 := { stood := { row := builderDoesUptoRow, standIns := [], harness := (true, "f3cd5dc4299ee7079e719df81375486d77b790af4c9558d60e9919ffa6205d06"), looks := false }, kinds := [], alts := [], laidByText := true, laidKinds := [.data], laidTests := true, laidLooks := .later }
def BuilderDoesUptoCardSaid : Prop := Claim7.holds Tryz.pinned (.plain (OpenSpec.upto builderDoesSpec)) builderDoesUptoCard

/-- THE SECOND FORM's CARD OF 'braidlaw18.PoolDoes'. -/
def poolDoesUptoCard : Claim7 := { stood := { row := poolDoesUptoRow, standIns := [], harness := (true, "f3cd5dc4299ee7079e719df81375486d77b790af4c9558d60e9919ffa6205d06"), looks := false }, kinds := [], alts := [], laidByText := true, laidKinds := [.data], laidTests := true, laidLooks := .later }
def PoolDoesUptoCardSaid : Prop := Claim7.holds Tryz.pinned (.plain (OpenSpec.upto poolDoesSpec)) poolDoesUptoCard
end Rows
end Go.Proofs.YtinjiccnjjmofaaGreatDoor
