/-
  NARROWER THAN 'FOR EVERY INPUT', by the rows' own cells (each row's printed sentence says how): OpMakes: laid · OpSigned: laid · OpDiffer: laid · OpNames: laid · JudgeExact: laid · JudgeNames: laid · JudgeParts: laid.
  DERIVED. THE GIVEN ROWS OF THIS SEAT. 7 by the template 'for every input the law returns true; each argument reads behind the call as it read before'; 0 by the template 'total and deterministic' (their statements: YtiohpiiiapjblaaDoorTotals.lean).
  GIVEN WITH THE SEED: the statements are not yours to turn. If you find one false, say at which input.
  Laid BY PROGRAM, IN A SANDBOX (cutbox-rows.mjs): the forced cells as the released guide's own fill.sh prints them over the translation 6f3b8b463013a4e9… (all of the seat's roots in one cut). By AI agents, Wed Nov 11 2026. No macro, syntax, notation, axiom, sorry.
-/
import Derived.Test.YtiohpiiiapjblaaDoorChecked
import GoSem.Claim
import GoSem.ClaimJoined
import GoSem.ClaimMapViews
import Derived.JoinedTies
import Derived.KernelRfl
namespace Go.Proofs.YtiohpiiiapjblaaDoor
/- THE CELL 'sum', in the pinned program and in every row, IS THE sha256 OF THE DUMP (.gsa) THAT YtiohpiiiapjblaaDoorProg.lean LOADS. Nothing in Lean hashes anything: it is a label: what it is worth is what the hold of that sum in a sandbox is worth. -/
noncomputable def Tryd.pinned : Pinned := { name := "ytiohpiiiapjblaadoor", sum := "6f3b8b463013a4e9f99f72e6beddc061cf29284c665587b995fd7a4abf46e13c", checked := Tryd.checked }
namespace Rows
def none {H : Type} : Left H := { results := [], args := [] }

/- WHAT THE LISTED PACKAGE-LEVEL VARIABLES READ AS WHEN THE CALL BEGINS. Each datum BY PROGRAM (the guide's laid-datum.mjs) off the statement by which the dump's own 'gosem.cut.vars' lays the variable. In a bare row this is a premise. The card (YtiohpiiiapjblaaDoorCards.lean) ties it to the program's text. -/
def laid_braid_digest_constants {H : Type} : DataW H := .agg [.lit (.int .u32 1116352408), .lit (.int .u32 1899447441), .lit (.int .u32 3049323471), .lit (.int .u32 3921009573), .lit (.int .u32 961987163), .lit (.int .u32 1508970993), .lit (.int .u32 2453635748), .lit (.int .u32 2870763221), .lit (.int .u32 3624381080), .lit (.int .u32 310598401), .lit (.int .u32 607225278), .lit (.int .u32 1426881987), .lit (.int .u32 1925078388), .lit (.int .u32 2162078206), .lit (.int .u32 2614888103), .lit (.int .u32 3248222580), .lit (.int .u32 3835390401), .lit (.int .u32 4022224774), .lit (.int .u32 264347078), .lit (.int .u32 604807628), .lit (.int .u32 770255983), .lit (.int .u32 1249150122), .lit (.int .u32 1555081692), .lit (.int .u32 1996064986), .lit (.int .u32 2554220882), .lit (.int .u32 2821834349), .lit (.int .u32 2952996808), .lit (.int .u32 3210313671), .lit (.int .u32 3336571891), .lit (.int .u32 3584528711), .lit (.int .u32 113926993), .lit (.int .u32 338241895), .lit (.int .u32 666307205), .lit (.int .u32 773529912), .lit (.int .u32 1294757372), .lit (.int .u32 1396182291), .lit (.int .u32 1695183700), .lit (.int .u32 1986661051), .lit (.int .u32 2177026350), .lit (.int .u32 2456956037), .lit (.int .u32 2730485921), .lit (.int .u32 2820302411), .lit (.int .u32 3259730800), .lit (.int .u32 3345764771), .lit (.int .u32 3516065817), .lit (.int .u32 3600352804), .lit (.int .u32 4094571909), .lit (.int .u32 275423344), .lit (.int .u32 430227734), .lit (.int .u32 506948616), .lit (.int .u32 659060556), .lit (.int .u32 883997877), .lit (.int .u32 958139571), .lit (.int .u32 1322822218), .lit (.int .u32 1537002063), .lit (.int .u32 1747873779), .lit (.int .u32 1955562222), .lit (.int .u32 2024104815), .lit (.int .u32 2227730452), .lit (.int .u32 2361852424), .lit (.int .u32 2428436474), .lit (.int .u32 2756734187), .lit (.int .u32 3204031479), .lit (.int .u32 3329325298)]

/-- 'braidlaw06.OpMakes': WHATEVER THE INPUT: true; the input reads as it did. -/
def opMakesSpec : ChangeSpec := { name := "opMakes", fn := fun _ => fun
  | [d] => { results := [.lit (.bool true)], args := [d] }
  | _ => none }
def opMakesRow : OpenClaim := { program := "ytiohpiiiapjblaadoor", sum := "6f3b8b463013a4e9f99f72e6beddc061cf29284c665587b995fd7a4abf46e13c", func := "braid/braidlaw06.OpMakes", spec := "opMakes", inPlace := ["internal/bytealg.Compare"], unfollowed := true, recurses := true, named := ["braid/digest.constants"], apart := false, laid := [("braid/digest.constants", laid_braid_digest_constants)] }
def OpMakesSaid : Prop := opMakesRow.holds Tryd.pinned (OpenSpec.ofChange opMakesSpec)

/-- ITS FALSE NEIGHBOUR: 'it returns false'. Refute it at one input. -/
def opMakesWrong : ChangeSpec := { name := "opMakes", fn := fun _ => fun
  | [d] => { results := [.lit (.bool false)], args := [d] }
  | _ => none }
def OpMakesWrongFalsely : Prop := opMakesRow.holds Tryd.pinned (OpenSpec.ofChange opMakesWrong)

/-- 'braidlaw06.OpSigned': WHATEVER THE INPUT: true; the input reads as it did. -/
def opSignedSpec : ChangeSpec := { name := "opSigned", fn := fun _ => fun
  | [d1, d2] => { results := [.lit (.bool true)], args := [d1, d2] }
  | _ => none }
def opSignedRow : OpenClaim := { program := "ytiohpiiiapjblaadoor", sum := "6f3b8b463013a4e9f99f72e6beddc061cf29284c665587b995fd7a4abf46e13c", func := "braid/braidlaw06.OpSigned", spec := "opSigned", inPlace := ["internal/bytealg.Compare"], unfollowed := true, recurses := true, named := ["braid/digest.constants"], apart := false, laid := [("braid/digest.constants", laid_braid_digest_constants)] }
def OpSignedSaid : Prop := opSignedRow.holds Tryd.pinned (OpenSpec.ofChange opSignedSpec)

/-- ITS FALSE NEIGHBOUR: 'it returns false'. Refute it at one input. -/
def opSignedWrong : ChangeSpec := { name := "opSigned", fn := fun _ => fun
  | [d1, d2] => { results := [.lit (.bool false)], args := [d1, d2] }
  | _ => none }
def OpSignedWrongFalsely : Prop := opSignedRow.holds Tryd.pinned (OpenSpec.ofChange opSignedWrong)

/-- 'braidlaw06.OpDiffer': WHATEVER THE INPUT: true; the input reads as it did. -/
def opDifferSpec : ChangeSpec := { name := "opDiffer", fn := fun _ => fun
  | [d1, d2, d3] => { results := [.lit (.bool true)], args := [d1, d2, d3] }
  | _ => none }
def opDifferRow : OpenClaim := { program := "ytiohpiiiapjblaadoor", sum := "6f3b8b463013a4e9f99f72e6beddc061cf29284c665587b995fd7a4abf46e13c", func := "braid/braidlaw06.OpDiffer", spec := "opDiffer", inPlace := ["internal/bytealg.Compare"], unfollowed := true, recurses := true, named := ["braid/digest.constants"], apart := false, laid := [("braid/digest.constants", laid_braid_digest_constants)] }
def OpDifferSaid : Prop := opDifferRow.holds Tryd.pinned (OpenSpec.ofChange opDifferSpec)

/-- ITS FALSE NEIGHBOUR: 'it returns false'. Refute it at one input. -/
def opDifferWrong : ChangeSpec := { name := "opDiffer", fn := fun _ => fun
  | [d1, d2, d3] => { results := [.lit (.bool false)], args := [d1, d2, d3] }
  | _ => none }
def OpDifferWrongFalsely : Prop := opDifferRow.holds Tryd.pinned (OpenSpec.ofChange opDifferWrong)

/-- 'braidlaw06.OpNames': WHATEVER THE INPUT: true; the input reads as it did. -/
def opNamesSpec : ChangeSpec := { name := "opNames", fn := fun _ => fun
  | [] => { results := [.lit (.bool true)], args := [] }
  | _ => none }
def opNamesRow : OpenClaim := { program := "ytiohpiiiapjblaadoor", sum := "6f3b8b463013a4e9f99f72e6beddc061cf29284c665587b995fd7a4abf46e13c", func := "braid/braidlaw06.OpNames", spec := "opNames", inPlace := ["internal/bytealg.Compare"], unfollowed := true, recurses := true, named := ["braid/digest.constants"], apart := false, laid := [("braid/digest.constants", laid_braid_digest_constants)] }
def OpNamesSaid : Prop := opNamesRow.holds Tryd.pinned (OpenSpec.ofChange opNamesSpec)

/-- ITS FALSE NEIGHBOUR: 'it returns false'. Refute it at one input. -/
def opNamesWrong : ChangeSpec := { name := "opNames", fn := fun _ => fun
  | [] => { results := [.lit (.bool false)], args := [] }
  | _ => none }
def OpNamesWrongFalsely : Prop := opNamesRow.holds Tryd.pinned (OpenSpec.ofChange opNamesWrong)

/-- 'braidlaw08.JudgeExact': WHATEVER THE INPUT: true; the input reads as it did. -/
def judgeExactSpec : ChangeSpec := { name := "judgeExact", fn := fun _ => fun
  | [d] => { results := [.lit (.bool true)], args := [d] }
  | _ => none }
def judgeExactRow : OpenClaim := { program := "ytiohpiiiapjblaadoor", sum := "6f3b8b463013a4e9f99f72e6beddc061cf29284c665587b995fd7a4abf46e13c", func := "braid/braidlaw08.JudgeExact", spec := "judgeExact", inPlace := ["internal/bytealg.Compare"], unfollowed := true, recurses := true, named := ["braid/digest.constants"], apart := false, laid := [("braid/digest.constants", laid_braid_digest_constants)] }
def JudgeExactSaid : Prop := judgeExactRow.holds Tryd.pinned (OpenSpec.ofChange judgeExactSpec)

/-- ITS FALSE NEIGHBOUR: 'it returns false'. Refute it at one input. -/
def judgeExactWrong : ChangeSpec := { name := "judgeExact", fn := fun _ => fun
  | [d] => { results := [.lit (.bool false)], args := [d] }
  | _ => none }
def JudgeExactWrongFalsely : Prop := judgeExactRow.holds Tryd.pinned (OpenSpec.ofChange judgeExactWrong)

/-- 'braidlaw08.JudgeNames': WHATEVER THE INPUT: true; the input reads as it did. -/
def judgeNamesSpec : ChangeSpec := { name := "judgeNames", fn := fun _ => fun
  | [] => { results := [.lit (.bool true)], args := [] }
  | _ => none }
def judgeNamesRow : OpenClaim := { program := "ytiohpiiiapjblaadoor", sum := "6f3b8b463013a4e9f99f72e6beddc061cf29284c665587b995fd7a4abf46e13c", func := "braid/braidlaw08.JudgeNames", spec := "judgeNames", inPlace := ["internal/bytealg.Compare"], unfollowed := true, recurses := true, named := ["braid/digest.constants"], apart := false, laid := [("braid/digest.constants", laid_braid_digest_constants)] }
def JudgeNamesSaid : Prop := judgeNamesRow.holds Tryd.pinned (OpenSpec.ofChange judgeNamesSpec)

/-- ITS FALSE NEIGHBOUR: 'it returns false'. Refute it at one input. -/
def judgeNamesWrong : ChangeSpec := { name := "judgeNames", fn := fun _ => fun
  | [] => { results := [.lit (.bool false)], args := [] }
  | _ => none }
def JudgeNamesWrongFalsely : Prop := judgeNamesRow.holds Tryd.pinned (OpenSpec.ofChange judgeNamesWrong)

/-- 'braidlaw08.JudgeParts': WHATEVER THE INPUT: true; the input reads as it did. -/
def judgePartsSpec : ChangeSpec := { name := "judgeParts", fn := fun _ => fun
  | [d1, d2] => { results := [.lit (.bool true)], args := [d1, d2] }
  | _ => none }
def judgePartsRow : OpenClaim := { program := "ytiohpiiiapjblaadoor", sum := "6f3b8b463013a4e9f99f72e6beddc061cf29284c665587b995fd7a4abf46e13c", func := "braid/braidlaw08.JudgeParts", spec := "judgeParts", inPlace := ["internal/bytealg.Compare"], unfollowed := true, recurses := true, named := ["braid/digest.constants"], apart := false, laid := [("braid/digest.constants", laid_braid_digest_constants)] }
def JudgePartsSaid : Prop := judgePartsRow.holds Tryd.pinned (OpenSpec.ofChange judgePartsSpec)

/-- ITS FALSE NEIGHBOUR: 'it returns false'. Refute it at one input. -/
def judgePartsWrong : ChangeSpec := { name := "judgeParts", fn := fun _ => fun
  | [d1, d2] => { results := [.lit (.bool false)], args := [d1, d2] }
  | _ => none }
def JudgePartsWrongFalsely : Prop := judgePartsRow.holds Tryd.pinned (OpenSpec.ofChange judgePartsWrong)

/- THE SECOND FORM. 'bulk': how many values and letters a reading holds, each counted each time it is reached (what is shared counts as often as it is met; a slice's spare places count too). A statement '..UptoSaid' is the law's where the arguments, and the package variables that the reading takes, are together of bulk at most 1048576: NARROWER than '..Said'. Prove '..Said' where nothing that the law and all that it calls make is longer than what came in: it says more and counts as full. Else prove '..UptoSaid'. A law counts once. -/
mutual
def uptoBulk {H : Type} : DataW H → Nat
  | .lit (.string bytes) => bytes.length + 1
  | .lit _ => 1
  | .nil => 1
  | .ptr d => uptoBulk d + 1
  | .slice elems spare => uptoBulkAll elems + uptoBulkAll spare + 1
  | .agg parts => uptoBulkAll parts + 1
  | .iface _ d => uptoBulk d + 1
  | .map entries => uptoBulkEntries entries + 1
  | .held _ => 1
def uptoBulkAll {H : Type} : List (DataW H) → Nat
  | [] => 0
  | d :: r => uptoBulk d + uptoBulkAll r
def uptoBulkEntries {H : Type} : List (Lit × DataW H) → Nat
  | [] => 0
  | x :: r => uptoBulkEntry x + uptoBulkEntries r
def uptoBulkEntry {H : Type} : Lit × DataW H → Nat
  | (.string bytes, d) => bytes.length + uptoBulk d + 1
  | (_, d) => uptoBulk d + 1
 end
def uptoSmall : (H : Type) → List (DataW H) → Bool := fun _ ds => decide (uptoBulkAll ds ≤ 1048576)
def OpenSpec.upto (s : _root_.Go.ChangeSpec) : _root_.Go.OpenSpec := { _root_.Go.OpenSpec.ofChange s with cond := some uptoSmall }

/-- 'braidlaw06.OpMakes', WHERE WHAT IT READS IS OF BULK AT MOST 1048576: true; the input reads as it did. -/
def opMakesUptoRow : OpenClaim := { program := "ytiohpiiiapjblaadoor", sum := "6f3b8b463013a4e9f99f72e6beddc061cf29284c665587b995fd7a4abf46e13c", func := "braid/braidlaw06.OpMakes", spec := "opMakes", inPlace := ["internal/bytealg.Compare"], unfollowed := true, recurses := true, named := ["braid/digest.constants"], apart := false, laid := [("braid/digest.constants", laid_braid_digest_constants)], narrowed := true }
def OpMakesUptoSaid : Prop := opMakesUptoRow.holds Tryd.pinned (OpenSpec.upto opMakesSpec)

/-- 'braidlaw06.OpSigned', WHERE WHAT IT READS IS OF BULK AT MOST 1048576: true; the input reads as it did. -/
def opSignedUptoRow : OpenClaim := { program := "ytiohpiiiapjblaadoor", sum := "6f3b8b463013a4e9f99f72e6beddc061cf29284c665587b995fd7a4abf46e13c", func := "braid/braidlaw06.OpSigned", spec := "opSigned", inPlace := ["internal/bytealg.Compare"], unfollowed := true, recurses := true, named := ["braid/digest.constants"], apart := false, laid := [("braid/digest.constants", laid_braid_digest_constants)], narrowed := true }
def OpSignedUptoSaid : Prop := opSignedUptoRow.holds Tryd.pinned (OpenSpec.upto opSignedSpec)

/-- 'braidlaw06.OpDiffer', WHERE WHAT IT READS IS OF BULK AT MOST 1048576: true; the input reads as it did. -/
def opDifferUptoRow : OpenClaim := { program := "ytiohpiiiapjblaadoor", sum := "6f3b8b463013a4e9f99f72e6beddc061cf29284c665587b995fd7a4abf46e13c", func := "braid/braidlaw06.OpDiffer", spec := "opDiffer", inPlace := ["internal/bytealg.Compare"], unfollowed := true, recurses := true, named := ["braid/digest.constants"], apart := false, laid := [("braid/digest.constants", laid_braid_digest_constants)], narrowed := true }
def OpDifferUptoSaid : Prop := opDifferUptoRow.holds Tryd.pinned (OpenSpec.upto opDifferSpec)

/-- 'braidlaw06.OpNames', WHERE WHAT IT READS IS OF BULK AT MOST 1048576: true; the input reads as it did. -/
def opNamesUptoRow : OpenClaim := { program := "ytiohpiiiapjblaadoor", sum := "6f3b8b463013a4e9f99f72e6beddc061cf29284c665587b995fd7a4abf46e13c", func := "braid/braidlaw06.OpNames", spec := "opNames", inPlace := ["internal/bytealg.Compare"], unfollowed := true, recurses := true, named := ["braid/digest.constants"], apart := false, laid := [("braid/digest.constants", laid_braid_digest_constants)], narrowed := true }
def OpNamesUptoSaid : Prop := opNamesUptoRow.holds Tryd.pinned (OpenSpec.upto opNamesSpec)

/-- 'braidlaw08.JudgeExact', WHERE WHAT IT READS IS OF BULK AT MOST 1048576: true; the input reads as it did. -/
def judgeExactUptoRow : OpenClaim := { program := "ytiohpiiiapjblaadoor", sum := "6f3b8b463013a4e9f99f72e6beddc061cf29284c665587b995fd7a4abf46e13c", func := "braid/braidlaw08.JudgeExact", spec := "judgeExact", inPlace := ["internal/bytealg.Compare"], unfollowed := true, recurses := true, named := ["braid/digest.constants"], apart := false, laid := [("braid/digest.constants", laid_braid_digest_constants)], narrowed := true }
def JudgeExactUptoSaid : Prop := judgeExactUptoRow.holds Tryd.pinned (OpenSpec.upto judgeExactSpec)

/-- 'braidlaw08.JudgeNames', WHERE WHAT IT READS IS OF BULK AT MOST 1048576: true; the input reads as it did. -/
def judgeNamesUptoRow : OpenClaim := { program := "ytiohpiiiapjblaadoor", sum := "6f3b8b463013a4e9f99f72e6beddc061cf29284c665587b995fd7a4abf46e13c", func := "braid/braidlaw08.JudgeNames", spec := "judgeNames", inPlace := ["internal/bytealg.Compare"], unfollowed := true, recurses := true, named := ["braid/digest.constants"], apart := false, laid := [("braid/digest.constants", laid_braid_digest_constants)], narrowed := true }
def JudgeNamesUptoSaid : Prop := judgeNamesUptoRow.holds Tryd.pinned (OpenSpec.upto judgeNamesSpec)

/-- 'braidlaw08.JudgeParts', WHERE WHAT IT READS IS OF BULK AT MOST 1048576: true; the input reads as it did. -/
def judgePartsUptoRow : OpenClaim := { program := "ytiohpiiiapjblaadoor", sum := "6f3b8b463013a4e9f99f72e6beddc061cf29284c665587b995fd7a4abf46e13c", func := "braid/braidlaw08.JudgeParts", spec := "judgeParts", inPlace := ["internal/bytealg.Compare"], unfollowed := true, recurses := true, named := ["braid/digest.constants"], apart := false, laid := [("braid/digest.constants", laid_braid_digest_constants)], narrowed := true }
def JudgePartsUptoSaid : Prop := judgePartsUptoRow.holds Tryd.pinned (OpenSpec.upto judgePartsSpec)

end Rows
end Go.Proofs.YtiohpiiiapjblaaDoor
