/-
  DERIVED. GIVEN WITH THE SEED: THE CARDS: each row of YtfoaecjggdaieaaGreatDoorRows.lean that lists a variable, with what it lists TIED to the program's text (the seventh form; the later family's looks); each row that meets fmt, with fmt's text TOLD by the authors' own Lean function (tested against real Go, not proved from fmt's source: count such statements apart). THE CARD IS WHAT COUNTS. Prove the row's statement (the work); the ties are given (YtfoaecjggdaieaaGreatDoorTie.lean); close each card by the builder's one call (the guide's Derived/Test/ToyasCard.lean, 'card_holds'). Laid BY PROGRAM, IN A SANDBOX (cutbox-door.mjs). By AI agents, Wed Nov 11 2026. No macro, syntax, notation, axiom, sorry.
-/
import Derived.Test.YtfoaecjggdaieaaGreatDoorRows
import GoSem.ClaimSeven
namespace Go.Proofs.YtfoaecjggdaieaaGreatDoor
namespace Rows

/-- THE TIED CARD OF 'braidlaw18.PoolSteps'. -/
def poolStepsCard : Claim7 := { stood := { row := poolStepsRow, standIns := [], harness := (true, "a8d80fc8e61850ac956e92974a507f8242847565356b489832ef312e3c5ef41c"), looks := false }, kinds := [], alts := [], laidByText := true, laidKinds := [.data], laidTests := true, laidLooks := .later }
def PoolStepsCardSaid : Prop := Claim7.holds Tryz.pinned (.plain (OpenSpec.ofChange poolStepsSpec)) poolStepsCard

/-- THE TIED CARD OF 'braidlaw18.PoolSame'. -/
def poolSameCard : Claim7 := { stood := { row := poolSameRow, standIns := [], harness := (true, "a8d80fc8e61850ac956e92974a507f8242847565356b489832ef312e3c5ef41c"), looks := false }, kinds := [], alts := [], laidByText := true, laidKinds := [.data], laidTests := true, laidLooks := .later }
def PoolSameCardSaid : Prop := Claim7.holds Tryz.pinned (.plain (OpenSpec.ofChange poolSameSpec)) poolSameCard

/-- THE TIED CARD OF 'braidlaw18.PoolNames'. -/
def poolNamesCard : Claim7 := { stood := { row := poolNamesRow, standIns := [], harness := (true, "a8d80fc8e61850ac956e92974a507f8242847565356b489832ef312e3c5ef41c"), looks := false }, kinds := [], alts := [], laidByText := true, laidKinds := [.data], laidTests := true, laidLooks := .later }
def PoolNamesCardSaid : Prop := Claim7.holds Tryz.pinned (.plain (OpenSpec.ofChange poolNamesSpec)) poolNamesCard

/-- THE TIED CARD OF 'braidlaw18.PoolJudges'. -/
def poolJudgesCard : Claim7 := { stood := { row := poolJudgesRow, standIns := [], harness := (true, "a8d80fc8e61850ac956e92974a507f8242847565356b489832ef312e3c5ef41c"), looks := false }, kinds := [], alts := [], laidByText := true, laidKinds := [.data], laidTests := true, laidLooks := .later }
def PoolJudgesCardSaid : Prop := Claim7.holds Tryz.pinned (.plain (OpenSpec.ofChange poolJudgesSpec)) poolJudgesCard

/-- THE TIED CARD OF 'braidlaw18.PoolGoes'. -/
def poolGoesCard : Claim7 := { stood := { row := poolGoesRow, standIns := [], harness := (true, "a8d80fc8e61850ac956e92974a507f8242847565356b489832ef312e3c5ef41c"), looks := false }, kinds := [], alts := [], laidByText := true, laidKinds := [.data], laidTests := true, laidLooks := .later }
def PoolGoesCardSaid : Prop := Claim7.holds Tryz.pinned (.plain (OpenSpec.ofChange poolGoesSpec)) poolGoesCard

/-- THE SECOND FORM's CARD OF 'braidlaw18.PoolSteps'. -/
def poolStepsUptoCard : Claim7 := { stood := { row := poolStepsUptoRow, standIns := [], harness := (true, "a8d80fc8e61850ac956e92974a507f8242847565356b489832ef312e3c5ef41c"), looks := false }, kinds := [], alts := [], laidByText := true, laidKinds := [.data], laidTests := true, laidLooks := .later }
def PoolStepsUptoCardSaid : Prop := Claim7.holds Tryz.pinned (.plain (OpenSpec.upto poolStepsSpec)) poolStepsUptoCard

/-- THE SECOND FORM's CARD OF 'braidlaw18.PoolSame'. -/
def poolSameUptoCard : Claim7 := { stood := { row := poolSameUptoRow, standIns := [], harness := (true, "a8d80fc8e61850ac956e92974a507f8242847565356b489832ef312e3c5ef41c"), looks := false }, kinds := [], alts := [], laidByText := true, laidKinds := [.data], laidTests := true, laidLooks := .later }
def PoolSameUptoCardSaid : Prop := Claim7.holds Tryz.pinned (.plain (OpenSpec.upto poolSameSpec)) poolSameUptoCard

/-- THE SECOND FORM's CARD OF 'braidlaw18.PoolNames'. -/
def poolNamesUptoCard : Claim7 := { stood := { row := poolNamesUptoRow, standIns := [], harness := (true, "a8d80fc8e61850ac956e92974a507f8242847565356b489832ef312e3c5ef41c"), looks := false }, kinds := [], alts := [], laidByText := true, laidKinds := [.data], laidTests := true, laidLooks := .later }
def PoolNamesUptoCardSaid : Prop := Claim7.holds Tryz.pinned (.plain (OpenSpec.upto poolNamesSpec)) poolNamesUptoCard

/-- THE SECOND FORM's CARD OF 'braidlaw18.PoolJudges'. -/
def poolJudgesUptoCard : Claim7 := { stood := { row := poolJudgesUptoRow, standIns := [], harness := (true, "a8d80fc8e61850ac956e92974a507f8242847565356b489832ef312e3c5ef41c"), looks := false }, kinds := [], alts := [], laidByText := true, laidKinds := [.data], laidTests := true, laidLooks := .later }
def PoolJudgesUptoCardSaid : Prop := Claim7.holds Tryz.pinned (.plain (OpenSpec.upto poolJudgesSpec)) poolJudgesUptoCard

/-- THE SECOND FORM's CARD OF 'braidlaw18.PoolGoes'. -/
def poolGoesUptoCard : Claim7 := { stood := { row := poolGoesUptoRow, standIns := [], harness := (true, "a8d80fc8e61850ac956e92974a507f8242847565356b489832ef312e3c5ef41c"), looks := false }, kinds := [], alts := [], laidByText := true, laidKinds := [.data], laidTests := true, laidLooks := .later }
def PoolGoesUptoCardSaid : Prop := Claim7.holds Tryz.pinned (.plain (OpenSpec.upto poolGoesSpec)) poolGoesUptoCard
end Rows
end Go.Proofs.YtfoaecjggdaieaaGreatDoor
