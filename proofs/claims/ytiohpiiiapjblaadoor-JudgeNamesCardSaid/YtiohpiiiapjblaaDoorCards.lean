/-
  DERIVED. GIVEN WITH THE SEED: THE CARDS: each row of YtiohpiiiapjblaaDoorRows.lean that lists a variable, with what it lists TIED to the program's text (the seventh form; the later family's looks); each row that meets fmt, with fmt's text TOLD by the authors' own Lean function (tested against real Go, not proved from fmt's source: count such statements apart). THE CARD IS WHAT COUNTS. Prove the row's statement (the work); the ties are given (YtiohpiiiapjblaaDoorTie.lean); close each card by the builder's one call (the guide's Derived/Test/ToyasCard.lean, 'card_holds'). Laid BY PROGRAM, IN A SANDBOX (cutbox-door.mjs). By AI agents, Wed Nov 11 2026. No macro, syntax, notation, axiom, sorry.
-/
import Derived.Test.YtiohpiiiapjblaaDoorRows
import GoSem.ClaimSeven
namespace Go.Proofs.YtiohpiiiapjblaaDoor
namespace Rows

/-- THE TIED CARD OF 'braidlaw06.OpMakes'. -/
def opMakesCard : Claim7 := { stood := { row := opMakesRow, standIns := [], harness := (true, "104f35b6784b2ea38b5d6679d4fffd1631d93a9a6896487cdb425c06aa7787e8"), looks := false }, kinds := [], alts := [], laidByText := true, laidKinds := [.data], laidTests := true, laidLooks := .later }
def OpMakesCardSaid : Prop := Claim7.holds Tryd.pinned (.plain (OpenSpec.ofChange opMakesSpec)) opMakesCard

/-- THE TIED CARD OF 'braidlaw06.OpSigned'. -/
def opSignedCard : Claim7 := { stood := { row := opSignedRow, standIns := [], harness := (true, "104f35b6784b2ea38b5d6679d4fffd1631d93a9a6896487cdb425c06aa7787e8"), looks := false }, kinds := [], alts := [], laidByText := true, laidKinds := [.data], laidTests := true, laidLooks := .later }
def OpSignedCardSaid : Prop := Claim7.holds Tryd.pinned (.plain (OpenSpec.ofChange opSignedSpec)) opSignedCard

/-- THE TIED CARD OF 'braidlaw06.OpDiffer'. -/
def opDifferCard : Claim7 := { stood := { row := opDifferRow, standIns := [], harness := (true, "104f35b6784b2ea38b5d6679d4fffd1631d93a9a6896487cdb425c06aa7787e8"), looks := false }, kinds := [], alts := [], laidByText := true, laidKinds := [.data], laidTests := true, laidLooks := .later }
def OpDifferCardSaid : Prop := Claim7.holds Tryd.pinned (.plain (OpenSpec.ofChange opDifferSpec)) opDifferCard

/-- THE TIED CARD OF 'braidlaw06.OpNames'. -/
def opNamesCard : Claim7 := { stood := { row := opNamesRow, standIns := [], harness := (true, "104f35b6784b2ea38b5d6679d4fffd1631d93a9a6896487cdb425c06aa7787e8"), looks := false }, kinds := [], alts := [], laidByText := true, laidKinds := [.data], laidTests := true, laidLooks := .later }
def OpNamesCardSaid : Prop := Claim7.holds Tryd.pinned (.plain (OpenSpec.ofChange opNamesSpec)) opNamesCard

/-- THE TIED CARD OF 'braidlaw08.JudgeExact'. -/
def judgeExactCard : Claim7 := { stood := { row := judgeExactRow, standIns := [], harness := (true, "104f35b6784b2ea38b5d6679d4fffd1631d93a9a6896487cdb425c06aa7787e8"), looks := false }, kinds := [], alts := [], laidByText := true, laidKinds := [.data], laidTests := true, laidLooks := .later }
def JudgeExactCardSaid : Prop := Claim7.holds Tryd.pinned (.plain (OpenSpec.ofChange judgeExactSpec)) judgeExactCard

/-- THE TIED CARD OF 'braidlaw08.JudgeNames'. -/
def judgeNamesCard : Claim7 := { stood := { row := judgeNamesRow, standIns := [], harness := (true, "104f35b6784b2ea38b5d6679d4fffd1631d93a9a6896487cdb425c06aa7787e8"), looks := false }, kinds := [], alts := [], laidByText := true, laidKinds := [.data], laidTests := true, laidLooks := .later }
def JudgeNamesCardSaid : Prop := Claim7.holds Tryd.pinned (.plain (OpenSpec.ofChange judgeNamesSpec)) judgeNamesCard

/-- THE TIED CARD OF 'braidlaw08.JudgeParts'. -/
def judgePartsCard : Claim7 := { stood := { row := judgePartsRow, standIns := [], harness := (true, "104f35b6784b2ea38b5d6679d4fffd1631d93a9a6896487cdb425c06aa7787e8"), looks := false }, kinds := [], alts := [], laidByText := true, laidKinds := [.data], laidTests := true, laidLooks := .later }
def JudgePartsCardSaid : Prop := Claim7.holds Tryd.pinned (.plain (OpenSpec.ofChange judgePartsSpec)) judgePartsCard

/-- THE SECOND FORM's CARD OF 'braidlaw06.OpMakes'. -/
def opMakesUptoCard : Claim7 := { stood := { row := opMakesUptoRow, standIns := [], harness := (true, "104f35b6784b2ea38b5d6679d4fffd1631d93a9a6896487cdb425c06aa7787e8"), looks := false }, kinds := [], alts := [], laidByText := true, laidKinds := [.data], laidTests := true, laidLooks := .later }
def OpMakesUptoCardSaid : Prop := Claim7.holds Tryd.pinned (.plain (OpenSpec.upto opMakesSpec)) opMakesUptoCard

/-- THE SECOND FORM's CARD OF 'braidlaw06.OpSigned'. -/
def opSignedUptoCard : Claim7 := { stood := { row := opSignedUptoRow, standIns := [], harness := (true, "104f35b6784b2ea38b5d6679d4fffd1631d93a9a6896487cdb425c06aa7787e8"), looks := false }, kinds := [], alts := [], laidByText := true, laidKinds := [.data], laidTests := true, laidLooks := .later }
def OpSignedUptoCardSaid : Prop := Claim7.holds Tryd.pinned (.plain (OpenSpec.upto opSignedSpec)) opSignedUptoCard

/-- THE SECOND FORM's CARD OF 'braidlaw06.OpDiffer'. -/
def opDifferUptoCard : Claim7 := { stood := { row := opDifferUptoRow, standIns := [], harness := (true, "104f35b6784b2ea38b5d6679d4fffd1631d93a9a6896487cdb425c06aa7787e8"), looks := false }, kinds := [], alts := [], laidByText := true, laidKinds := [.data], laidTests := true, laidLooks := .later }
def OpDifferUptoCardSaid : Prop := Claim7.holds Tryd.pinned (.plain (OpenSpec.upto opDifferSpec)) opDifferUptoCard

/-- THE SECOND FORM's CARD OF 'braidlaw06.OpNames'. -/
def opNamesUptoCard : Claim7 := { stood := { row := opNamesUptoRow, standIns := [], harness := (true, "104f35b6784b2ea38b5d6679d4fffd1631d93a9a6896487cdb425c06aa7787e8"), looks := false }, kinds := [], alts := [], laidByText := true, laidKinds := [.data], laidTests := true, laidLooks := .later }
def OpNamesUptoCardSaid : Prop := Claim7.holds Tryd.pinned (.plain (OpenSpec.upto opNamesSpec)) opNamesUptoCard

/-- THE SECOND FORM's CARD OF 'braidlaw08.JudgeExact'. -/
def judgeExactUptoCard : Claim7 := { stood := { row := judgeExactUptoRow, standIns := [], harness := (true, "104f35b6784b2ea38b5d6679d4fffd1631d93a9a6896487cdb425c06aa7787e8"), looks := false }, kinds := [], alts := [], laidByText := true, laidKinds := [.data], laidTests := true, laidLooks := .later }
def JudgeExactUptoCardSaid : Prop := Claim7.holds Tryd.pinned (.plain (OpenSpec.upto judgeExactSpec)) judgeExactUptoCard

/-- THE SECOND FORM's CARD OF 'braidlaw08.JudgeNames'. -/
def judgeNamesUptoCard : Claim7 := { stood := { row := judgeNamesUptoRow, standIns := [], harness := (true, "104f35b6784b2ea38b5d6679d4fffd1631d93a9a6896487cdb425c06aa7787e8"), looks := false }, kinds := [], alts := [], laidByText := true, laidKinds := [.data], laidTests := true, laidLooks := .later }
def JudgeNamesUptoCardSaid : Prop := Claim7.holds Tryd.pinned (.plain (OpenSpec.upto judgeNamesSpec)) judgeNamesUptoCard

/-- THE SECOND FORM's CARD OF 'braidlaw08.JudgeParts'. -/
def judgePartsUptoCard : Claim7 := { stood := { row := judgePartsUptoRow, standIns := [], harness := (true, "104f35b6784b2ea38b5d6679d4fffd1631d93a9a6896487cdb425c06aa7787e8"), looks := false }, kinds := [], alts := [], laidByText := true, laidKinds := [.data], laidTests := true, laidLooks := .later }
def JudgePartsUptoCardSaid : Prop := Claim7.holds Tryd.pinned (.plain (OpenSpec.upto judgePartsSpec)) judgePartsUptoCard
end Rows
end Go.Proofs.YtiohpiiiapjblaaDoor
