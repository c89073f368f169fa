/-
  NARROWER THAN 'FOR EVERY INPUT', by the rows' own cells (each row's printed sentence says how): LwwSees: laid · LwwNames: laid · DagClosed: laid · DagMakes: laid · DagOrders: laid · DagUnion: laid · BuilderDoes: laid · PoolDoes: laid · ShardFinds: laid · StoreFinds: laid.
  DERIVED. THE GIVEN ROWS OF THIS SEAT. 10 by the template 'for every input the law returns true; each argument reads behind the call as it read before'; 0 by the template 'total and deterministic' (their statements: YtakbhjagiofbgaaGreatDoorTotals.lean).
  GIVEN WITH THE SEED: the statements are not yours to turn. If you find one false, say at which input.
  Laid BY PROGRAM, IN A SANDBOX (cutbox-rows.mjs): the forced cells as the released guide's own fill.sh prints them over the translation e4819ce858ba564b… (all of the seat's roots in one cut). By AI agents, Wed Nov 11 2026. No macro, syntax, notation, axiom, sorry.
-/
import Derived.Test.YtakbhjagiofbgaaGreatDoorChecked
import GoSem.Claim
import GoSem.ClaimJoined
import GoSem.ClaimMapViews
import Derived.JoinedTies
import Derived.KernelRfl
namespace Go.Proofs.YtakbhjagiofbgaaGreatDoor
/- THE CELL 'sum', in the pinned program and in every row, IS THE sha256 OF THE DUMP (.gsa) THAT YtakbhjagiofbgaaGreatDoorProg.lean LOADS. Nothing in Lean hashes anything: it is a label: what it is worth is what the hold of that sum in a sandbox is worth. -/
noncomputable def Tryz.pinned : Pinned := { name := "ytakbhjagiofbgaagreatdoor", sum := "e4819ce858ba564bffb872d4b41a994976422e4a6e99eec6be8c65ae8ec51c5a", checked := Tryz.checked }
namespace Rows
def none {H : Type} : Left H := { results := [], args := [] }

/- WHAT THE LISTED PACKAGE-LEVEL VARIABLES READ AS WHEN THE CALL BEGINS. Each datum BY PROGRAM (the guide's laid-datum.mjs) off the statement by which the dump's own 'gosem.cut.vars' lays the variable. In a bare row this is a premise. The card (YtakbhjagiofbgaaGreatDoorCards.lean) ties it to the program's text. -/
def laid_braid_digest_constants {H : Type} : DataW H := .agg [.lit (.int .u32 1116352408), .lit (.int .u32 1899447441), .lit (.int .u32 3049323471), .lit (.int .u32 3921009573), .lit (.int .u32 961987163), .lit (.int .u32 1508970993), .lit (.int .u32 2453635748), .lit (.int .u32 2870763221), .lit (.int .u32 3624381080), .lit (.int .u32 310598401), .lit (.int .u32 607225278), .lit (.int .u32 1426881987), .lit (.int .u32 1925078388), .lit (.int .u32 2162078206), .lit (.int .u32 2614888103), .lit (.int .u32 3248222580), .lit (.int .u32 3835390401), .lit (.int .u32 4022224774), .lit (.int .u32 264347078), .lit (.int .u32 604807628), .lit (.int .u32 770255983), .lit (.int .u32 1249150122), .lit (.int .u32 1555081692), .lit (.int .u32 1996064986), .lit (.int .u32 2554220882), .lit (.int .u32 2821834349), .lit (.int .u32 2952996808), .lit (.int .u32 3210313671), .lit (.int .u32 3336571891), .lit (.int .u32 3584528711), .lit (.int .u32 113926993), .lit (.int .u32 338241895), .lit (.int .u32 666307205), .lit (.int .u32 773529912), .lit (.int .u32 1294757372), .lit (.int .u32 1396182291), .lit (.int .u32 1695183700), .lit (.int .u32 1986661051), .lit (.int .u32 2177026350), .lit (.int .u32 2456956037), .lit (.int .u32 2730485921), .lit (.int .u32 2820302411), .lit (.int .u32 3259730800), .lit (.int .u32 3345764771), .lit (.int .u32 3516065817), .lit (.int .u32 3600352804), .lit (.int .u32 4094571909), .lit (.int .u32 275423344), .lit (.int .u32 430227734), .lit (.int .u32 506948616), .lit (.int .u32 659060556), .lit (.int .u32 883997877), .lit (.int .u32 958139571), .lit (.int .u32 1322822218), .lit (.int .u32 1537002063), .lit (.int .u32 1747873779), .lit (.int .u32 1955562222), .lit (.int .u32 2024104815), .lit (.int .u32 2227730452), .lit (.int .u32 2361852424), .lit (.int .u32 2428436474), .lit (.int .u32 2756734187), .lit (.int .u32 3204031479), .lit (.int .u32 3329325298)]

/-- 'braidlaw22.LwwSees': WHATEVER THE INPUT: true; the input reads as it did. -/
def lwwSeesSpec : ChangeSpec := { name := "lwwSees", fn := fun _ => fun
  | [d] => { results := [.lit (.bool true)], args := [d] }
  | _ => none }
def lwwSeesRow : OpenClaim := { program := "ytakbhjagiofbgaagreatdoor", sum := "e4819ce858ba564bffb872d4b41a994976422e4a6e99eec6be8c65ae8ec51c5a", func := "braid/braidlaw22.LwwSees", spec := "lwwSees", inPlace := ["internal/bytealg.Compare", "slices.overlaps[braid/api.Reg]"], unfollowed := true, recurses := true, named := ["braid/digest.constants"], plainKeys := false, apart := false, laid := [("braid/digest.constants", laid_braid_digest_constants)] }
def LwwSeesSaid : Prop := lwwSeesRow.holds Tryz.pinned (OpenSpec.ofChange lwwSeesSpec)

/-- ITS FALSE NEIGHBOUR: 'it returns false'. Refute it at one input. -/
def lwwSeesWrong : ChangeSpec := { name := "lwwSees", fn := fun _ => fun
  | [d] => { results := [.lit (.bool false)], args := [d] }
  | _ => none }
def LwwSeesWrongFalsely : Prop := lwwSeesRow.holds Tryz.pinned (OpenSpec.ofChange lwwSeesWrong)

/-- 'braidlaw22.LwwNames': WHATEVER THE INPUT: true; the input reads as it did. -/
def lwwNamesSpec : ChangeSpec := { name := "lwwNames", fn := fun _ => fun
  | [] => { results := [.lit (.bool true)], args := [] }
  | _ => none }
def lwwNamesRow : OpenClaim := { program := "ytakbhjagiofbgaagreatdoor", sum := "e4819ce858ba564bffb872d4b41a994976422e4a6e99eec6be8c65ae8ec51c5a", func := "braid/braidlaw22.LwwNames", spec := "lwwNames", inPlace := ["internal/bytealg.Compare", "slices.overlaps[braid/api.Reg]"], unfollowed := true, recurses := true, named := ["braid/digest.constants"], plainKeys := false, apart := false, laid := [("braid/digest.constants", laid_braid_digest_constants)] }
def LwwNamesSaid : Prop := lwwNamesRow.holds Tryz.pinned (OpenSpec.ofChange lwwNamesSpec)

/-- ITS FALSE NEIGHBOUR: 'it returns false'. Refute it at one input. -/
def lwwNamesWrong : ChangeSpec := { name := "lwwNames", fn := fun _ => fun
  | [] => { results := [.lit (.bool false)], args := [] }
  | _ => none }
def LwwNamesWrongFalsely : Prop := lwwNamesRow.holds Tryz.pinned (OpenSpec.ofChange lwwNamesWrong)

/-- 'braidlaw09.DagClosed': WHATEVER THE INPUT: true; the input reads as it did. -/
def dagClosedSpec : ChangeSpec := { name := "dagClosed", fn := fun _ => fun
  | [d1, d2] => { results := [.lit (.bool true)], args := [d1, d2] }
  | _ => none }
def dagClosedRow : OpenClaim := { program := "ytakbhjagiofbgaagreatdoor", sum := "e4819ce858ba564bffb872d4b41a994976422e4a6e99eec6be8c65ae8ec51c5a", func := "braid/braidlaw09.DagClosed", spec := "dagClosed", inPlace := ["internal/bytealg.Compare", "slices.overlaps[braid/api.ID]"], unfollowed := true, recurses := true, named := ["braid/digest.constants"], plainKeys := false, apart := false, laid := [("braid/digest.constants", laid_braid_digest_constants)] }
def DagClosedSaid : Prop := dagClosedRow.holds Tryz.pinned (OpenSpec.ofChange dagClosedSpec)

/-- ITS FALSE NEIGHBOUR: 'it returns false'. Refute it at one input. -/
def dagClosedWrong : ChangeSpec := { name := "dagClosed", fn := fun _ => fun
  | [d1, d2] => { results := [.lit (.bool false)], args := [d1, d2] }
  | _ => none }
def DagClosedWrongFalsely : Prop := dagClosedRow.holds Tryz.pinned (OpenSpec.ofChange dagClosedWrong)

/-- 'braidlaw09.DagMakes': WHATEVER THE INPUT: true; the input reads as it did. -/
def dagMakesSpec : ChangeSpec := { name := "dagMakes", fn := fun _ => fun
  | [d1, d2, d3, d4] => { results := [.lit (.bool true)], args := [d1, d2, d3, d4] }
  | _ => none }
def dagMakesRow : OpenClaim := { program := "ytakbhjagiofbgaagreatdoor", sum := "e4819ce858ba564bffb872d4b41a994976422e4a6e99eec6be8c65ae8ec51c5a", func := "braid/braidlaw09.DagMakes", spec := "dagMakes", inPlace := ["internal/bytealg.Compare", "slices.overlaps[braid/api.ID]"], unfollowed := true, recurses := true, named := ["braid/digest.constants"], plainKeys := false, apart := false, laid := [("braid/digest.constants", laid_braid_digest_constants)] }
def DagMakesSaid : Prop := dagMakesRow.holds Tryz.pinned (OpenSpec.ofChange dagMakesSpec)

/-- ITS FALSE NEIGHBOUR: 'it returns false'. Refute it at one input. -/
def dagMakesWrong : ChangeSpec := { name := "dagMakes", fn := fun _ => fun
  | [d1, d2, d3, d4] => { results := [.lit (.bool false)], args := [d1, d2, d3, d4] }
  | _ => none }
def DagMakesWrongFalsely : Prop := dagMakesRow.holds Tryz.pinned (OpenSpec.ofChange dagMakesWrong)

/-- 'braidlaw09.DagOrders': WHATEVER THE INPUT: true; the input reads as it did. -/
def dagOrdersSpec : ChangeSpec := { name := "dagOrders", fn := fun _ => fun
  | [d1, d2] => { results := [.lit (.bool true)], args := [d1, d2] }
  | _ => none }
def dagOrdersRow : OpenClaim := { program := "ytakbhjagiofbgaagreatdoor", sum := "e4819ce858ba564bffb872d4b41a994976422e4a6e99eec6be8c65ae8ec51c5a", func := "braid/braidlaw09.DagOrders", spec := "dagOrders", inPlace := ["internal/bytealg.Compare", "slices.overlaps[braid/api.ID]"], unfollowed := true, recurses := true, named := ["braid/digest.constants"], plainKeys := false, apart := false, laid := [("braid/digest.constants", laid_braid_digest_constants)] }
def DagOrdersSaid : Prop := dagOrdersRow.holds Tryz.pinned (OpenSpec.ofChange dagOrdersSpec)

/-- ITS FALSE NEIGHBOUR: 'it returns false'. Refute it at one input. -/
def dagOrdersWrong : ChangeSpec := { name := "dagOrders", fn := fun _ => fun
  | [d1, d2] => { results := [.lit (.bool false)], args := [d1, d2] }
  | _ => none }
def DagOrdersWrongFalsely : Prop := dagOrdersRow.holds Tryz.pinned (OpenSpec.ofChange dagOrdersWrong)

/-- 'braidlaw09.DagUnion': WHATEVER THE INPUT: true; the input reads as it did. -/
def dagUnionSpec : ChangeSpec := { name := "dagUnion", fn := fun _ => fun
  | [d1, d2, d3] => { results := [.lit (.bool true)], args := [d1, d2, d3] }
  | _ => none }
def dagUnionRow : OpenClaim := { program := "ytakbhjagiofbgaagreatdoor", sum := "e4819ce858ba564bffb872d4b41a994976422e4a6e99eec6be8c65ae8ec51c5a", func := "braid/braidlaw09.DagUnion", spec := "dagUnion", inPlace := ["internal/bytealg.Compare", "slices.overlaps[braid/api.ID]"], unfollowed := true, recurses := true, named := ["braid/digest.constants"], plainKeys := false, apart := false, laid := [("braid/digest.constants", laid_braid_digest_constants)] }
def DagUnionSaid : Prop := dagUnionRow.holds Tryz.pinned (OpenSpec.ofChange dagUnionSpec)

/-- ITS FALSE NEIGHBOUR: 'it returns false'. Refute it at one input. -/
def dagUnionWrong : ChangeSpec := { name := "dagUnion", fn := fun _ => fun
  | [d1, d2, d3] => { results := [.lit (.bool false)], args := [d1, d2, d3] }
  | _ => none }
def DagUnionWrongFalsely : Prop := dagUnionRow.holds Tryz.pinned (OpenSpec.ofChange dagUnionWrong)

/-- 'braidlaw24.BuilderDoes': WHATEVER THE INPUT: true; the input reads as it did. -/
def builderDoesSpec : ChangeSpec := { name := "builderDoes", fn := fun _ => fun
  | [d1, d2, d3, d4, d5] => { results := [.lit (.bool true)], args := [d1, d2, d3, d4, d5] }
  | _ => none }
def builderDoesRow : OpenClaim := { program := "ytakbhjagiofbgaagreatdoor", sum := "e4819ce858ba564bffb872d4b41a994976422e4a6e99eec6be8c65ae8ec51c5a", func := "braid/braidlaw24.BuilderDoes", spec := "builderDoes", inPlace := ["internal/bytealg.Compare"], unfollowed := true, recurses := true, named := ["braid/digest.constants"], plainKeys := false, apart := false, laid := [("braid/digest.constants", laid_braid_digest_constants)] }
def BuilderDoesSaid : Prop := builderDoesRow.holds Tryz.pinned (OpenSpec.ofChange builderDoesSpec)

/-- ITS FALSE NEIGHBOUR: 'it returns false'. Refute it at one input. -/
def builderDoesWrong : ChangeSpec := { name := "builderDoes", fn := fun _ => fun
  | [d1, d2, d3, d4, d5] => { results := [.lit (.bool false)], args := [d1, d2, d3, d4, d5] }
  | _ => none }
def BuilderDoesWrongFalsely : Prop := builderDoesRow.holds Tryz.pinned (OpenSpec.ofChange builderDoesWrong)

/-- 'braidlaw18.PoolDoes': WHATEVER THE INPUT: true; the input reads as it did. -/
def poolDoesSpec : ChangeSpec := { name := "poolDoes", fn := fun _ => fun
  | [d1, d2, d3, d4, d5] => { results := [.lit (.bool true)], args := [d1, d2, d3, d4, d5] }
  | _ => none }
def poolDoesRow : OpenClaim := { program := "ytakbhjagiofbgaagreatdoor", sum := "e4819ce858ba564bffb872d4b41a994976422e4a6e99eec6be8c65ae8ec51c5a", func := "braid/braidlaw18.PoolDoes", spec := "poolDoes", inPlace := ["internal/bytealg.Compare"], unfollowed := true, recurses := true, named := ["braid/digest.constants"], plainKeys := false, apart := false, laid := [("braid/digest.constants", laid_braid_digest_constants)] }
def PoolDoesSaid : Prop := poolDoesRow.holds Tryz.pinned (OpenSpec.ofChange poolDoesSpec)

/-- ITS FALSE NEIGHBOUR: 'it returns false'. Refute it at one input. -/
def poolDoesWrong : ChangeSpec := { name := "poolDoes", fn := fun _ => fun
  | [d1, d2, d3, d4, d5] => { results := [.lit (.bool false)], args := [d1, d2, d3, d4, d5] }
  | _ => none }
def PoolDoesWrongFalsely : Prop := poolDoesRow.holds Tryz.pinned (OpenSpec.ofChange poolDoesWrong)

/-- 'braidlaw11.ShardFinds': WHATEVER THE INPUT: true; the input reads as it did. -/
def shardFindsSpec : ChangeSpec := { name := "shardFinds", fn := fun _ => fun
  | [d1, d2, d3] => { results := [.lit (.bool true)], args := [d1, d2, d3] }
  | _ => none }
def shardFindsRow : OpenClaim := { program := "ytakbhjagiofbgaagreatdoor", sum := "e4819ce858ba564bffb872d4b41a994976422e4a6e99eec6be8c65ae8ec51c5a", func := "braid/braidlaw11.ShardFinds", spec := "shardFinds", inPlace := ["internal/bytealg.Compare"], unfollowed := true, recurses := true, named := ["braid/digest.constants"], plainKeys := false, apart := false, laid := [("braid/digest.constants", laid_braid_digest_constants)] }
def ShardFindsSaid : Prop := shardFindsRow.holds Tryz.pinned (OpenSpec.ofChange shardFindsSpec)

/-- ITS FALSE NEIGHBOUR: 'it returns false'. Refute it at one input. -/
def shardFindsWrong : ChangeSpec := { name := "shardFinds", fn := fun _ => fun
  | [d1, d2, d3] => { results := [.lit (.bool false)], args := [d1, d2, d3] }
  | _ => none }
def ShardFindsWrongFalsely : Prop := shardFindsRow.holds Tryz.pinned (OpenSpec.ofChange shardFindsWrong)

/-- 'braidlaw12.StoreFinds': WHATEVER THE INPUT: true; the input reads as it did. -/
def storeFindsSpec : ChangeSpec := { name := "storeFinds", fn := fun _ => fun
  | [d1, d2, d3, d4, d5, d6] => { results := [.lit (.bool true)], args := [d1, d2, d3, d4, d5, d6] }
  | _ => none }
def storeFindsRow : OpenClaim := { program := "ytakbhjagiofbgaagreatdoor", sum := "e4819ce858ba564bffb872d4b41a994976422e4a6e99eec6be8c65ae8ec51c5a", func := "braid/braidlaw12.StoreFinds", spec := "storeFinds", inPlace := ["internal/bytealg.Compare"], unfollowed := true, recurses := true, named := ["braid/digest.constants"], plainKeys := false, apart := false, laid := [("braid/digest.constants", laid_braid_digest_constants)] }
def StoreFindsSaid : Prop := storeFindsRow.holds Tryz.pinned (OpenSpec.ofChange storeFindsSpec)

/-- ITS FALSE NEIGHBOUR: 'it returns false'. Refute it at one input. -/
def storeFindsWrong : ChangeSpec := { name := "storeFinds", fn := fun _ => fun
  | [d1, d2, d3, d4, d5, d6] => { results := [.lit (.bool false)], args := [d1, d2, d3, d4, d5, d6] }
  | _ => none }
def StoreFindsWrongFalsely : Prop := storeFindsRow.holds Tryz.pinned (OpenSpec.ofChange storeFindsWrong)

/- THE SECOND FORM. 'bulk': how many values and letters a reading holds, each counted each time it is reached (what is shared counts as often as it is met; a slice's spare places count too). A statement '..UptoSaid' is the law's where the arguments, and the package variables that the reading takes, are together of bulk at most 1048576: NARROWER than '..Said'. Prove '..Said' where nothing that the law and all that it calls make is longer than what came in: it says more and counts as full. Else prove '..UptoSaid'. A law counts once. -/
mutual
def uptoBulk {H : Type} : DataW H → Nat
  | .lit (.string bytes) => bytes.length + 1
  | .lit _ => 1
  | .nil => 1
  | .ptr d => uptoBulk d + 1
  | .slice elems spare => uptoBulkAll elems + uptoBulkAll spare + 1
  | .agg parts => uptoBulkAll parts + 1
  | .iface _ d => uptoBulk d + 1
  | .map entries => uptoBulkEntries entries + 1
  | .held _ => 1
def uptoBulkAll {H : Type} : List (DataW H) → Nat
  | [] => 0
  | d :: r => uptoBulk d + uptoBulkAll r
def uptoBulkEntries {H : Type} : List (Lit × DataW H) → Nat
  | [] => 0
  | x :: r => uptoBulkEntry x + uptoBulkEntries r
def uptoBulkEntry {H : Type} : Lit × DataW H → Nat
  | (.string bytes, d) => bytes.length + uptoBulk d + 1
  | (_, d) => uptoBulk d + 1
 end
def uptoSmall : (H : Type) → List (DataW H) → Bool := fun _ ds => decide (uptoBulkAll ds ≤ 1048576)
def OpenSpec.upto (s : _root_.Go.ChangeSpec) : _root_.Go.OpenSpec := { _root_.Go.OpenSpec.ofChange s with cond := some uptoSmall }

/-- 'braidlaw22.LwwSees', WHERE WHAT IT READS IS OF BULK AT MOST 1048576: true; the input reads as it did. -/
def lwwSeesUptoRow : OpenClaim := { program := "ytakbhjagiofbgaagreatdoor", sum := "e4819ce858ba564bffb872d4b41a994976422e4a6e99eec6be8c65ae8ec51c5a", func := "braid/braidlaw22.LwwSees", spec := "lwwSees", inPlace := ["internal/bytealg.Compare", "slices.overlaps[braid/api.Reg]"], unfollowed := true, recurses := true, named := ["braid/digest.constants"], plainKeys := false, apart := false, laid := [("braid/digest.constants", laid_braid_digest_constants)], narrowed := true }
def LwwSeesUptoSaid : Prop := lwwSeesUptoRow.holds Tryz.pinned (OpenSpec.upto lwwSeesSpec)

/-- 'braidlaw22.LwwNames', WHERE WHAT IT READS IS OF BULK AT MOST 1048576: true; the input reads as it did. -/
def lwwNamesUptoRow : OpenClaim := { program := "ytakbhjagiofbgaagreatdoor", sum := "e4819ce858ba564bffb872d4b41a994976422e4a6e99eec6be8c65ae8ec51c5a", func := "braid/braidlaw22.LwwNames", spec := "lwwNames", inPlace := ["internal/bytealg.Compare", "slices.overlaps[braid/api.Reg]"], unfollowed := true, recurses := true, named := ["braid/digest.constants"], plainKeys := false, apart := false, laid := [("braid/digest.constants", laid_braid_digest_constants)], narrowed := true }
def LwwNamesUptoSaid : Prop := lwwNamesUptoRow.holds Tryz.pinned (OpenSpec.upto lwwNamesSpec)

/-- 'braidlaw09.DagClosed', WHERE WHAT IT READS IS OF BULK AT MOST 1048576: true; the input reads as it did. -/
def dagClosedUptoRow : OpenClaim := { program := "ytakbhjagiofbgaagreatdoor", sum := "e4819ce858ba564bffb872d4b41a994976422e4a6e99eec6be8c65ae8ec51c5a", func := "braid/braidlaw09.DagClosed", spec := "dagClosed", inPlace := ["internal/bytealg.Compare", "slices.overlaps[braid/api.ID]"], unfollowed := true, recurses := true, named := ["braid/digest.constants"], plainKeys := false, apart := false, laid := [("braid/digest.constants", laid_braid_digest_constants)], narrowed := true }
def DagClosedUptoSaid : Prop := dagClosedUptoRow.holds Tryz.pinned (OpenSpec.upto dagClosedSpec)

/-- 'braidlaw09.DagMakes', WHERE WHAT IT READS IS OF BULK AT MOST 1048576: true; the input reads as it did. -/
def dagMakesUptoRow : OpenClaim := { program := "ytakbhjagiofbgaagreatdoor", sum := "e4819ce858ba564bffb872d4b41a994976422e4a6e99eec6be8c65ae8ec51c5a", func := "braid/braidlaw09.DagMakes", spec := "dagMakes", inPlace := ["internal/bytealg.Compare", "slices.overlaps[braid/api.ID]"], unfollowed := true, recurses := true, named := ["braid/digest.constants"], plainKeys := false, apart := false, laid := [("braid/digest.constants", laid_braid_digest_constants)], narrowed := true }
def DagMakesUptoSaid : Prop := dagMakesUptoRow.holds Tryz.pinned (OpenSpec.upto dagMakesSpec)

/-- 'braidlaw09.DagOrders', WHERE WHAT IT READS IS OF BULK AT MOST 1048576: true; the input reads as it did. -/
def dagOrdersUptoRow : OpenClaim := { program := "ytakbhjagiofbgaagreatdoor", sum := "e4819ce858ba564bffb872d4b41a994976422e4a6e99eec6be8c65ae8ec51c5a", func := "braid/braidlaw09.DagOrders", spec := "dagOrders", inPlace := ["internal/bytealg.Compare", "slices.overlaps[braid/api.ID]"], unfollowed := true, recurses := true, named := ["braid/digest.constants"], plainKeys := false, apart := false, laid := [("braid/digest.constants", laid_braid_digest_constants)], narrowed := true }
def DagOrdersUptoSaid : Prop := dagOrdersUptoRow.holds Tryz.pinned (OpenSpec.upto dagOrdersSpec)

/-- 'braidlaw09.DagUnion', WHERE WHAT IT READS IS OF BULK AT MOST 1048576: true; the input reads as it did. -/
def dagUnionUptoRow : OpenClaim := { program := "ytakbhjagiofbgaagreatdoor", sum := "e4819ce858ba564bffb872d4b41a994976422e4a6e99eec6be8c65ae8ec51c5a", func := "braid/braidlaw09.DagUnion", spec := "dagUnion", inPlace := ["internal/bytealg.Compare", "slices.overlaps[braid/api.ID]"], unfollowed := true, recurses := true, named := ["braid/digest.constants"], plainKeys := false, apart := false, laid := [("braid/digest.constants", laid_braid_digest_constants)], narrowed := true }
def DagUnionUptoSaid : Prop := dagUnionUptoRow.holds Tryz.pinned (OpenSpec.upto dagUnionSpec)

/-- 'braidlaw24.BuilderDoes', WHERE WHAT IT READS IS OF BULK AT MOST 1048576: true; the input reads as it did. -/
def builderDoesUptoRow : OpenClaim := { program := "ytakbhjagiofbgaagreatdoor", sum := "e4819ce858ba564bffb872d4b41a994976422e4a6e99eec6be8c65ae8ec51c5a", func := "braid/braidlaw24.BuilderDoes", spec := "builderDoes", inPlace := ["internal/bytealg.Compare"], unfollowed := true, recurses := true, named := ["braid/digest.constants"], plainKeys := false, apart := false, laid := [("braid/digest.constants", laid_braid_digest_constants)], narrowed := true }
def BuilderDoesUptoSaid : Prop := builderDoesUptoRow.holds Tryz.pinned (OpenSpec.upto builderDoesSpec)

/-- 'braidlaw18.PoolDoes', WHERE WHAT IT READS IS OF BULK AT MOST 1048576: true; the input reads as it did. -/
def poolDoesUptoRow : OpenClaim := { program := "ytakbhjagiofbgaagreatdoor", sum := "e4819ce858ba564bffb872d4b41a994976422e4a6e99eec6be8c65ae8ec51c5a", func := "braid/braidlaw18.PoolDoes", spec := "poolDoes", inPlace := ["internal/bytealg.Compare"], unfollowed := true, recurses := true, named := ["braid/digest.constants"], plainKeys := false, apart := false, laid := [("braid/digest.constants", laid_braid_digest_constants)], narrowed := true }
def PoolDoesUptoSaid : Prop := poolDoesUptoRow.holds Tryz.pinned (OpenSpec.upto poolDoesSpec)

/-- 'braidlaw11.ShardFinds', WHERE WHAT IT READS IS OF BULK AT MOST 1048576: true; the input reads as it did. -/
def shardFindsUptoRow : OpenClaim := { program := "ytakbhjagiofbgaagreatdoor", sum := "e4819ce858ba564bffb872d4b41a994976422e4a6e99eec6be8c65ae8ec51c5a", func := "braid/braidlaw11.ShardFinds", spec := "shardFinds", inPlace := ["internal/bytealg.Compare"], unfollowed := true, recurses := true, named := ["braid/digest.constants"], plainKeys := false, apart := false, laid := [("braid/digest.constants", laid_braid_digest_constants)], narrowed := true }
def ShardFindsUptoSaid : Prop := shardFindsUptoRow.holds Tryz.pinned (OpenSpec.upto shardFindsSpec)

/-- 'braidlaw12.StoreFinds', WHERE WHAT IT READS IS OF BULK AT MOST 1048576: true; the input reads as it did. -/
def storeFindsUptoRow : OpenClaim := { program := "ytakbhjagiofbgaagreatdoor", sum := "e4819ce858ba564bffb872d4b41a994976422e4a6e99eec6be8c65ae8ec51c5a", func := "braid/braidlaw12.StoreFinds", spec := "storeFinds", inPlace := ["internal/bytealg.Compare"], unfollowed := true, recurses := true, named := ["braid/digest.constants"], plainKeys := false, apart := false, laid := [("braid/digest.constants", laid_braid_digest_constants)], narrowed := true }
def StoreFindsUptoSaid : Prop := storeFindsUptoRow.holds Tryz.pinned (OpenSpec.upto storeFindsSpec)

end Rows
end Go.Proofs.YtakbhjagiofbgaaGreatDoor
