/-
  DERIVED. GIVEN WITH THE SEED: THE CARDS: each row of YtjjbdaiioociaaaGreatDoorRows.lean that lists a variable, with what it lists TIED to the program's text (the seventh form; the later family's looks); each row that meets fmt, with fmt's text TOLD by the authors' own Lean function (tested against real Go, not proved from fmt's source: count such statements apart). THE CARD IS WHAT COUNTS. Prove the row's statement (the work); the ties are given (YtjjbdaiioociaaaGreatDoorTie.lean); close each card by the builder's one call (the guide's Derived/Test/ToyasCard.lean, 'card_holds'). Laid BY PROGRAM, IN A SANDBOX (cutbox-door.mjs). By AI agents, Wed Nov 11 2026. No macro, syntax, notation, axiom, sorry.
-/
import Derived.Test.YtjjbdaiioociaaaGreatDoorRows
import GoSem.ClaimSeven
namespace Go.Proofs.YtjjbdaiioociaaaGreatDoor
namespace Rows

/-- THE TIED CARD OF 'braidlaw18.PoolNames'. -/
def poolNamesCard : Claim7 := { stood := { row := poolNamesRow, standIns := [], harness := (true, "d780024759582f4c21eebe46363cb9e1abbcb493ebc94a25406c496a11db6cb1"), looks := false }, kinds := [], alts := [], laidByText := true, laidKinds := [.data], laidTests := true, laidLooks := .later }
def PoolNamesCardSaid : Prop := Claim7.holds Tryz.pinned (.plain (OpenSpec.ofChange poolNamesSpec)) poolNamesCard

/-- THE TIED CARD OF 'braidtop.TopDag'. -/
def topDagCard : Claim7 := { stood := { row := topDagRow, standIns := [], harness := (true, "d780024759582f4c21eebe46363cb9e1abbcb493ebc94a25406c496a11db6cb1"), looks := false }, kinds := [], alts := [], laidByText := true, laidKinds := [.data], laidTests := true, laidLooks := .later }
def TopDagCardSaid : Prop := Claim7.holds Tryz.pinned (.plain (OpenSpec.ofChange topDagSpec)) topDagCard

/-- THE SECOND FORM's CARD OF 'braidlaw18.PoolNames'. -/
def poolNamesUptoCard : Claim7 := { stood := { row := poolNamesUptoRow, standIns := [], harness := (true, "d780024759582f4c21eebe46363cb9e1abbcb493ebc94a25406c496a11db6cb1"), looks := false }, kinds := [], alts := [], laidByText := true, laidKinds := [.data], laidTests := true, laidLooks := .later }
def PoolNamesUptoCardSaid : Prop := Claim7.holds Tryz.pinned (.plain (OpenSpec.upto poolNamesSpec)) poolNamesUptoCard

/-- THE SECOND FORM's CARD OF 'braidtop.TopDag'. -/
def topDagUptoCard : Claim7 := { stood := { row := topDagUptoRow, standIns := [], harness := (true, "d780024759582f4c21eebe46363cb9e1abbcb493ebc94a25406c496a11db6cb1"), looks := false }, kinds := [], alts := [], laidByText := true, laidKinds := [.data], laidTests := true, laidLooks := .later }
def TopDagUptoCardSaid : Prop := Claim7.holds Tryz.pinned (.plain (OpenSpec.upto topDagSpec)) topDagUptoCard
end Rows
end Go.Proofs.YtjjbdaiioociaaaGreatDoor
