/-
  DERIVED. GIVEN WITH THE SEED: THE CARDS: each row of YtfoaecjggdaieaaDoorRows.lean that lists a variable, with what it lists TIED to the program's text (the seventh form; the later family's looks); each row that meets fmt, with fmt's text TOLD by the authors' own Lean function (tested against real Go, not proved from fmt's source: count such statements apart). THE CARD IS WHAT COUNTS. Prove the row's statement (the work); the ties are given (YtfoaecjggdaieaaDoorTie.lean); close each card by the builder's one call (the guide's Derived/Test/ToyasCard.lean, 'card_holds'). Laid BY PROGRAM, IN A SANDBOX (cutbox-door.mjs). By AI agents, Wed Nov 11 2026. No macro, syntax, notation, axiom, sorry.
-/
import Derived.Test.YtfoaecjggdaieaaDoorRows
import GoSem.ClaimSeven
namespace Go.Proofs.YtfoaecjggdaieaaDoor
namespace Rows

/-- THE TIED CARD OF 'braidtop.TopSign'. -/
def topSignCard : Claim7 := { stood := { row := topSignRow, standIns := [], harness := (true, "a747aaf020fbec03000733adeba7b61568de4ece9955e229cfb5211a24dfcd12"), looks := false }, kinds := [], alts := [], laidByText := true, laidKinds := [.data], laidTests := true, laidLooks := .later }
def TopSignCardSaid : Prop := Claim7.holds Tryd.pinned (.plain (OpenSpec.ofChange topSignSpec)) topSignCard

/-- THE SECOND FORM's CARD OF 'braidtop.TopSign'. -/
def topSignUptoCard : Claim7 := { stood := { row := topSignUptoRow, standIns := [], harness := (true, "a747aaf020fbec03000733adeba7b61568de4ece9955e229cfb5211a24dfcd12"), looks := false }, kinds := [], alts := [], laidByText := true, laidKinds := [.data], laidTests := true, laidLooks := .later }
def TopSignUptoCardSaid : Prop := Claim7.holds Tryd.pinned (.plain (OpenSpec.upto topSignSpec)) topSignUptoCard
end Rows
end Go.Proofs.YtfoaecjggdaieaaDoor
