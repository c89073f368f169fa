/-
  DERIVED. GIVEN WITH THE SEED: THE CARDS: each row of YtjjbdaiioociaaaDoorRows.lean that lists a variable, with what it lists TIED to the program's text (the seventh form; the later family's looks); each row that meets fmt, with fmt's text TOLD by the authors' own Lean function (tested against real Go, not proved from fmt's source: count such statements apart). THE CARD IS WHAT COUNTS. Prove the row's statement (the work); the ties are given (YtjjbdaiioociaaaDoorTie.lean); close each card by the builder's one call (the guide's Derived/Test/ToyasCard.lean, 'card_holds'). Laid BY PROGRAM, IN A SANDBOX (cutbox-door.mjs). By AI agents, Wed Nov 11 2026. No macro, syntax, notation, axiom, sorry.
-/
import Derived.Test.YtjjbdaiioociaaaDoorRows
import GoSem.ClaimSeven
namespace Go.Proofs.YtjjbdaiioociaaaDoor
namespace Rows

/-- THE TIED CARD OF 'braidlaw09.DagNames'. -/
def dagNamesCard : Claim7 := { stood := { row := dagNamesRow, standIns := [], harness := (true, "8dedcbde8457c3a057ce59c40fdb15dfb31c0ce2e0f82714ae55f767c6209484"), looks := false }, kinds := [], alts := [], laidByText := true, laidKinds := [.data], laidTests := true, laidLooks := .later }
def DagNamesCardSaid : Prop := Claim7.holds Tryd.pinned (.plain (OpenSpec.ofChange dagNamesSpec)) dagNamesCard

/-- THE SECOND FORM's CARD OF 'braidlaw09.DagNames'. -/
def dagNamesUptoCard : Claim7 := { stood := { row := dagNamesUptoRow, standIns := [], harness := (true, "8dedcbde8457c3a057ce59c40fdb15dfb31c0ce2e0f82714ae55f767c6209484"), looks := false }, kinds := [], alts := [], laidByText := true, laidKinds := [.data], laidTests := true, laidLooks := .later }
def DagNamesUptoCardSaid : Prop := Claim7.holds Tryd.pinned (.plain (OpenSpec.upto dagNamesSpec)) dagNamesUptoCard
end Rows
end Go.Proofs.YtjjbdaiioociaaaDoor
