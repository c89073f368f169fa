/-
  DERIVED. GIVEN WITH THE SEED: THE CARDS: each row of YtiohpiiiapjblaaGreatDoorRows.lean that lists a variable, with what it lists TIED to the program's text (the seventh form; the later family's looks); each row that meets fmt, with fmt's text TOLD by the authors' own Lean function (tested against real Go, not proved from fmt's source: count such statements apart). THE CARD IS WHAT COUNTS. Prove the row's statement (the work); the ties are given (YtiohpiiiapjblaaGreatDoorTie.lean); close each card by the builder's one call (the guide's Derived/Test/ToyasCard.lean, 'card_holds'). Laid BY PROGRAM, IN A SANDBOX (cutbox-door.mjs). By AI agents, Wed Nov 11 2026. No macro, syntax, notation, axiom, sorry.
-/
import Derived.Test.YtiohpiiiapjblaaGreatDoorRows
import GoSem.ClaimSeven
namespace Go.Proofs.YtiohpiiiapjblaaGreatDoor
namespace Rows

/-- THE TIED CARD OF 'braidlaw08.JudgeFinds'. -/
def judgeFindsCard : Claim7 := { stood := { row := judgeFindsRow, standIns := [], harness := (true, "5f1a454c20384897b10aae27f0fb7605c8ace21901f8afa9a203fa82d3013071"), looks := false }, kinds := [], alts := [], laidByText := true, laidKinds := [.data], laidTests := true, laidLooks := .later }
def JudgeFindsCardSaid : Prop := Claim7.holds Tryz.pinned (.plain (OpenSpec.ofChange judgeFindsSpec)) judgeFindsCard

/-- THE TIED CARD OF 'braidlaw08.JudgeLists'. -/
def judgeListsCard : Claim7 := { stood := { row := judgeListsRow, standIns := [], harness := (true, "5f1a454c20384897b10aae27f0fb7605c8ace21901f8afa9a203fa82d3013071"), looks := false }, kinds := [], alts := [], laidByText := true, laidKinds := [.data], laidTests := true, laidLooks := .later }
def JudgeListsCardSaid : Prop := Claim7.holds Tryz.pinned (.plain (OpenSpec.ofChange judgeListsSpec)) judgeListsCard

/-- THE TIED CARD OF 'braidlaw06.OpReads'. -/
def opReadsCard : Claim7 := { stood := { row := opReadsRow, standIns := [], harness := (true, "5f1a454c20384897b10aae27f0fb7605c8ace21901f8afa9a203fa82d3013071"), looks := false }, kinds := [], alts := [], laidByText := true, laidKinds := [.data], laidTests := true, laidLooks := .later }
def OpReadsCardSaid : Prop := Claim7.holds Tryz.pinned (.plain (OpenSpec.ofChange opReadsSpec)) opReadsCard

/-- THE TIED CARD OF 'braidlaw06.OpOne'. -/
def opOneCard : Claim7 := { stood := { row := opOneRow, standIns := [], harness := (true, "5f1a454c20384897b10aae27f0fb7605c8ace21901f8afa9a203fa82d3013071"), looks := false }, kinds := [], alts := [], laidByText := true, laidKinds := [.data], laidTests := true, laidLooks := .later }
def OpOneCardSaid : Prop := Claim7.holds Tryz.pinned (.plain (OpenSpec.ofChange opOneSpec)) opOneCard

/-- THE TIED CARD OF 'braidlaw08.JudgeSigned'. -/
def judgeSignedCard : Claim7 := { stood := { row := judgeSignedRow, standIns := [], harness := (true, "5f1a454c20384897b10aae27f0fb7605c8ace21901f8afa9a203fa82d3013071"), looks := false }, kinds := [], alts := [], laidByText := true, laidKinds := [.data], laidTests := true, laidLooks := .later }
def JudgeSignedCardSaid : Prop := Claim7.holds Tryz.pinned (.plain (OpenSpec.ofChange judgeSignedSpec)) judgeSignedCard

/-- THE SECOND FORM's CARD OF 'braidlaw08.JudgeFinds'. -/
def judgeFindsUptoCard : Claim7 := { stood := { row := judgeFindsUptoRow, standIns := [], harness := (true, "5f1a454c20384897b10aae27f0fb7605c8ace21901f8afa9a203fa82d3013071"), looks := false }, kinds := [], alts := [], laidByText := true, laidKinds := [.data], laidTests := true, laidLooks := .later }
def JudgeFindsUptoCardSaid : Prop := Claim7.holds Tryz.pinned (.plain (OpenSpec.upto judgeFindsSpec)) judgeFindsUptoCard

/-- THE SECOND FORM's CARD OF 'braidlaw08.JudgeLists'. -/
def judgeListsUptoCard : Claim7 := { stood := { row := judgeListsUptoRow, standIns := [], harness := (true, "5f1a454c20384897b10aae27f0fb7605c8ace21901f8afa9a203fa82d3013071"), looks := false }, kinds := [], alts := [], laidByText := true, laidKinds := [.data], laidTests := true, laidLooks := .later }
def JudgeListsUptoCardSaid : Prop := Claim7.holds Tryz.pinned (.plain (OpenSpec.upto judgeListsSpec)) judgeListsUptoCard

/-- THE SECOND FORM's CARD OF 'braidlaw06.OpReads'. -/
def opReadsUptoCard : Claim7 := { stood := { row := opReadsUptoRow, standIns := [], harness := (true, "5f1a454c20384897b10aae27f0fb7605c8ace21901f8afa9a203fa82d3013071"), looks := false }, kinds := [], alts := [], laidByText := true, laidKinds := [.data], laidTests := true, laidLooks := .later }
def OpReadsUptoCardSaid : Prop := Claim7.holds Tryz.pinned (.plain (OpenSpec.upto opReadsSpec)) opReadsUptoCard

/-- THE SECOND FORM's CARD OF 'braidlaw06.OpOne'. -/
def opOneUptoCard : Claim7 := { stood := { row := opOneUptoRow, standIns := [], harness := (true, "5f1a454c20384897b10aae27f0fb7605c8ace21901f8afa9a203fa82d3013071"), looks := false }, kinds := [], alts := [], laidByText := true, laidKinds := [.data], laidTests := true, laidLooks := .later }
def OpOneUptoCardSaid : Prop := Claim7.holds Tryz.pinned (.plain (OpenSpec.upto opOneSpec)) opOneUptoCard

/-- THE SECOND FORM's CARD OF 'braidlaw08.JudgeSigned'. -/
def judgeSignedUptoCard : Claim7 := { stood := { row := judgeSignedUptoRow, standIns := [], harness := (true, "5f1a454c20384897b10aae27f0fb7605c8ace21901f8afa9a203fa82d3013071"), looks := false }, kinds := [], alts := [], laidByText := true, laidKinds := [.data], laidTests := true, laidLooks := .later }
def JudgeSignedUptoCardSaid : Prop := Claim7.holds Tryz.pinned (.plain (OpenSpec.upto judgeSignedSpec)) judgeSignedUptoCard
end Rows
end Go.Proofs.YtiohpiiiapjblaaGreatDoor
