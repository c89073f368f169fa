/-
  NARROWER THAN 'FOR EVERY INPUT', by the rows' own cells (each row's printed sentence says how): StoreFinds: laid · StoreOffers: laid · StoreParts: laid · StoreFirst: laid · StoreShards: laid · StoreNames: laid · StoreMissing: laid · BuilderWrites: laid · BuilderNames: laid · BuilderBytes: laid · BuilderCommits: laid · BuilderLater: laid.
  DERIVED. THE GIVEN ROWS OF THIS SEAT. 12 by the template 'for every input the law returns true; each argument reads behind the call as it read before'; 0 by the template 'total and deterministic' (their statements: YtaapnlnileblaaaGreatDoorTotals.lean).
  GIVEN WITH THE SEED: the statements are not yours to turn. If you find one false, say at which input.
  Laid BY PROGRAM, IN A SANDBOX (cutbox-rows.mjs): the forced cells as the released guide's own fill.sh prints them over the translation 1e6cf9277a8a912d… (all of the seat's roots in one cut). By AI agents, Wed Nov 11 2026. No macro, syntax, notation, axiom, sorry.
-/
import Derived.Test.YtaapnlnileblaaaGreatDoorChecked
import GoSem.Claim
import GoSem.ClaimJoined
import GoSem.ClaimMapViews
import Derived.JoinedTies
import Derived.KernelRfl
namespace Go.Proofs.YtaapnlnileblaaaGreatDoor
/- THE CELL 'sum', in the pinned program and in every row, IS THE sha256 OF THE DUMP (.gsa) THAT YtaapnlnileblaaaGreatDoorProg.lean LOADS. Nothing in Lean hashes anything: it is a label: what it is worth is what the hold of that sum in a sandbox is worth. -/
noncomputable def Tryz.pinned : Pinned := { name := "ytaapnlnileblaaagreatdoor", sum := "1e6cf9277a8a912d9f0d3f646f4eb6be8cada2d622982314d6cfa139630bf3ad", checked := Tryz.checked }
namespace Rows
def none {H : Type} : Left H := { results := [], args := [] }

/- WHAT THE LISTED PACKAGE-LEVEL VARIABLES READ AS WHEN THE CALL BEGINS. Each datum BY PROGRAM (the guide's laid-datum.mjs) off the statement by which the dump's own 'gosem.cut.vars' lays the variable. In a bare row this is a premise. The card (YtaapnlnileblaaaGreatDoorCards.lean) ties it to the program's text. -/
def laid_braid_digest_constants {H : Type} : DataW H := .agg [.lit (.int .u32 1116352408), .lit (.int .u32 1899447441), .lit (.int .u32 3049323471), .lit (.int .u32 3921009573), .lit (.int .u32 961987163), .lit (.int .u32 1508970993), .lit (.int .u32 2453635748), .lit (.int .u32 2870763221), .lit (.int .u32 3624381080), .lit (.int .u32 310598401), .lit (.int .u32 607225278), .lit (.int .u32 1426881987), .lit (.int .u32 1925078388), .lit (.int .u32 2162078206), .lit (.int .u32 2614888103), .lit (.int .u32 3248222580), .lit (.int .u32 3835390401), .lit (.int .u32 4022224774), .lit (.int .u32 264347078), .lit (.int .u32 604807628), .lit (.int .u32 770255983), .lit (.int .u32 1249150122), .lit (.int .u32 1555081692), .lit (.int .u32 1996064986), .lit (.int .u32 2554220882), .lit (.int .u32 2821834349), .lit (.int .u32 2952996808), .lit (.int .u32 3210313671), .lit (.int .u32 3336571891), .lit (.int .u32 3584528711), .lit (.int .u32 113926993), .lit (.int .u32 338241895), .lit (.int .u32 666307205), .lit (.int .u32 773529912), .lit (.int .u32 1294757372), .lit (.int .u32 1396182291), .lit (.int .u32 1695183700), .lit (.int .u32 1986661051), .lit (.int .u32 2177026350), .lit (.int .u32 2456956037), .lit (.int .u32 2730485921), .lit (.int .u32 2820302411), .lit (.int .u32 3259730800), .lit (.int .u32 3345764771), .lit (.int .u32 3516065817), .lit (.int .u32 3600352804), .lit (.int .u32 4094571909), .lit (.int .u32 275423344), .lit (.int .u32 430227734), .lit (.int .u32 506948616), .lit (.int .u32 659060556), .lit (.int .u32 883997877), .lit (.int .u32 958139571), .lit (.int .u32 1322822218), .lit (.int .u32 1537002063), .lit (.int .u32 1747873779), .lit (.int .u32 1955562222), .lit (.int .u32 2024104815), .lit (.int .u32 2227730452), .lit (.int .u32 2361852424), .lit (.int .u32 2428436474), .lit (.int .u32 2756734187), .lit (.int .u32 3204031479), .lit (.int .u32 3329325298)]

/-- 'braidlaw12.StoreFinds': WHATEVER THE INPUT: true; the input reads as it did. -/
def storeFindsSpec : ChangeSpec := { name := "storeFinds", fn := fun _ => fun
  | [d1, d2, d3, d4, d5, d6] => { results := [.lit (.bool true)], args := [d1, d2, d3, d4, d5, d6] }
  | _ => none }
def storeFindsRow : OpenClaim := { program := "ytaapnlnileblaaagreatdoor", sum := "1e6cf9277a8a912d9f0d3f646f4eb6be8cada2d622982314d6cfa139630bf3ad", func := "braid/braidlaw12.StoreFinds", spec := "storeFinds", inPlace := ["internal/bytealg.Compare"], unfollowed := true, recurses := true, named := ["braid/digest.constants"], plainKeys := false, apart := false, laid := [("braid/digest.constants", laid_braid_digest_constants)] }
def StoreFindsSaid : Prop := storeFindsRow.holds Tryz.pinned (OpenSpec.ofChange storeFindsSpec)

/-- ITS FALSE NEIGHBOUR: 'it returns false'. Refute it at one input. -/
def storeFindsWrong : ChangeSpec := { name := "storeFinds", fn := fun _ => fun
  | [d1, d2, d3, d4, d5, d6] => { results := [.lit (.bool false)], args := [d1, d2, d3, d4, d5, d6] }
  | _ => none }
def StoreFindsWrongFalsely : Prop := storeFindsRow.holds Tryz.pinned (OpenSpec.ofChange storeFindsWrong)

/-- 'braidlaw12.StoreOffers': WHATEVER THE INPUT: true; the input reads as it did. -/
def storeOffersSpec : ChangeSpec := { name := "storeOffers", fn := fun _ => fun
  | [d1, d2, d3] => { results := [.lit (.bool true)], args := [d1, d2, d3] }
  | _ => none }
def storeOffersRow : OpenClaim := { program := "ytaapnlnileblaaagreatdoor", sum := "1e6cf9277a8a912d9f0d3f646f4eb6be8cada2d622982314d6cfa139630bf3ad", func := "braid/braidlaw12.StoreOffers", spec := "storeOffers", inPlace := ["internal/bytealg.Compare", "slices.overlaps[braid/api.ID]", "slices.overlaps[braid/api.Op]"], unfollowed := true, recurses := true, named := ["braid/digest.constants"], plainKeys := false, apart := false, laid := [("braid/digest.constants", laid_braid_digest_constants)] }
def StoreOffersSaid : Prop := storeOffersRow.holds Tryz.pinned (OpenSpec.ofChange storeOffersSpec)

/-- ITS FALSE NEIGHBOUR: 'it returns false'. Refute it at one input. -/
def storeOffersWrong : ChangeSpec := { name := "storeOffers", fn := fun _ => fun
  | [d1, d2, d3] => { results := [.lit (.bool false)], args := [d1, d2, d3] }
  | _ => none }
def StoreOffersWrongFalsely : Prop := storeOffersRow.holds Tryz.pinned (OpenSpec.ofChange storeOffersWrong)

/-- 'braidlaw12.StoreParts': WHATEVER THE INPUT: true; the input reads as it did. -/
def storePartsSpec : ChangeSpec := { name := "storeParts", fn := fun _ => fun
  | [d1, d2, d3] => { results := [.lit (.bool true)], args := [d1, d2, d3] }
  | _ => none }
def storePartsRow : OpenClaim := { program := "ytaapnlnileblaaagreatdoor", sum := "1e6cf9277a8a912d9f0d3f646f4eb6be8cada2d622982314d6cfa139630bf3ad", func := "braid/braidlaw12.StoreParts", spec := "storeParts", inPlace := ["internal/bytealg.Compare", "slices.overlaps[braid/api.ID]", "slices.overlaps[braid/api.Op]"], unfollowed := true, recurses := true, named := ["braid/digest.constants"], plainKeys := false, apart := false, laid := [("braid/digest.constants", laid_braid_digest_constants)] }
def StorePartsSaid : Prop := storePartsRow.holds Tryz.pinned (OpenSpec.ofChange storePartsSpec)

/-- ITS FALSE NEIGHBOUR: 'it returns false'. Refute it at one input. -/
def storePartsWrong : ChangeSpec := { name := "storeParts", fn := fun _ => fun
  | [d1, d2, d3] => { results := [.lit (.bool false)], args := [d1, d2, d3] }
  | _ => none }
def StorePartsWrongFalsely : Prop := storePartsRow.holds Tryz.pinned (OpenSpec.ofChange storePartsWrong)

/-- 'braidlaw12.StoreFirst': WHATEVER THE INPUT: true; the input reads as it did. -/
def storeFirstSpec : ChangeSpec := { name := "storeFirst", fn := fun _ => fun
  | [d1, d2] => { results := [.lit (.bool true)], args := [d1, d2] }
  | _ => none }
def storeFirstRow : OpenClaim := { program := "ytaapnlnileblaaagreatdoor", sum := "1e6cf9277a8a912d9f0d3f646f4eb6be8cada2d622982314d6cfa139630bf3ad", func := "braid/braidlaw12.StoreFirst", spec := "storeFirst", inPlace := ["internal/bytealg.Compare", "slices.overlaps[braid/api.ID]", "slices.overlaps[braid/api.Op]"], unfollowed := true, recurses := true, named := ["braid/digest.constants"], plainKeys := false, apart := false, laid := [("braid/digest.constants", laid_braid_digest_constants)] }
def StoreFirstSaid : Prop := storeFirstRow.holds Tryz.pinned (OpenSpec.ofChange storeFirstSpec)

/-- ITS FALSE NEIGHBOUR: 'it returns false'. Refute it at one input. -/
def storeFirstWrong : ChangeSpec := { name := "storeFirst", fn := fun _ => fun
  | [d1, d2] => { results := [.lit (.bool false)], args := [d1, d2] }
  | _ => none }
def StoreFirstWrongFalsely : Prop := storeFirstRow.holds Tryz.pinned (OpenSpec.ofChange storeFirstWrong)

/-- 'braidlaw12.StoreShards': WHATEVER THE INPUT: true; the input reads as it did. -/
def storeShardsSpec : ChangeSpec := { name := "storeShards", fn := fun _ => fun
  | [d1, d2, d3, d4] => { results := [.lit (.bool true)], args := [d1, d2, d3, d4] }
  | _ => none }
def storeShardsRow : OpenClaim := { program := "ytaapnlnileblaaagreatdoor", sum := "1e6cf9277a8a912d9f0d3f646f4eb6be8cada2d622982314d6cfa139630bf3ad", func := "braid/braidlaw12.StoreShards", spec := "storeShards", inPlace := ["internal/bytealg.Compare", "slices.overlaps[braid/api.ID]", "slices.overlaps[braid/api.Op]"], unfollowed := true, recurses := true, named := ["braid/digest.constants"], plainKeys := false, apart := false, laid := [("braid/digest.constants", laid_braid_digest_constants)] }
def StoreShardsSaid : Prop := storeShardsRow.holds Tryz.pinned (OpenSpec.ofChange storeShardsSpec)

/-- ITS FALSE NEIGHBOUR: 'it returns false'. Refute it at one input. -/
def storeShardsWrong : ChangeSpec := { name := "storeShards", fn := fun _ => fun
  | [d1, d2, d3, d4] => { results := [.lit (.bool false)], args := [d1, d2, d3, d4] }
  | _ => none }
def StoreShardsWrongFalsely : Prop := storeShardsRow.holds Tryz.pinned (OpenSpec.ofChange storeShardsWrong)

/-- 'braidlaw12.StoreNames': WHATEVER THE INPUT: true; the input reads as it did. -/
def storeNamesSpec : ChangeSpec := { name := "storeNames", fn := fun _ => fun
  | [] => { results := [.lit (.bool true)], args := [] }
  | _ => none }
def storeNamesRow : OpenClaim := { program := "ytaapnlnileblaaagreatdoor", sum := "1e6cf9277a8a912d9f0d3f646f4eb6be8cada2d622982314d6cfa139630bf3ad", func := "braid/braidlaw12.StoreNames", spec := "storeNames", inPlace := ["internal/bytealg.Compare", "slices.overlaps[braid/api.ID]", "slices.overlaps[braid/api.Op]"], unfollowed := true, recurses := true, named := ["braid/digest.constants"], plainKeys := false, apart := false, laid := [("braid/digest.constants", laid_braid_digest_constants)] }
def StoreNamesSaid : Prop := storeNamesRow.holds Tryz.pinned (OpenSpec.ofChange storeNamesSpec)

/-- ITS FALSE NEIGHBOUR: 'it returns false'. Refute it at one input. -/
def storeNamesWrong : ChangeSpec := { name := "storeNames", fn := fun _ => fun
  | [] => { results := [.lit (.bool false)], args := [] }
  | _ => none }
def StoreNamesWrongFalsely : Prop := storeNamesRow.holds Tryz.pinned (OpenSpec.ofChange storeNamesWrong)

/-- 'braidlaw12.StoreMissing': WHATEVER THE INPUT: true; the input reads as it did. -/
def storeMissingSpec : ChangeSpec := { name := "storeMissing", fn := fun _ => fun
  | [d1, d2] => { results := [.lit (.bool true)], args := [d1, d2] }
  | _ => none }
def storeMissingRow : OpenClaim := { program := "ytaapnlnileblaaagreatdoor", sum := "1e6cf9277a8a912d9f0d3f646f4eb6be8cada2d622982314d6cfa139630bf3ad", func := "braid/braidlaw12.StoreMissing", spec := "storeMissing", inPlace := ["internal/bytealg.Compare", "slices.overlaps[braid/api.ID]", "slices.overlaps[braid/api.Op]"], unfollowed := true, recurses := true, named := ["braid/digest.constants"], plainKeys := false, apart := false, laid := [("braid/digest.constants", laid_braid_digest_constants)] }
def StoreMissingSaid : Prop := storeMissingRow.holds Tryz.pinned (OpenSpec.ofChange storeMissingSpec)

/-- ITS FALSE NEIGHBOUR: 'it returns false'. Refute it at one input. -/
def storeMissingWrong : ChangeSpec := { name := "storeMissing", fn := fun _ => fun
  | [d1, d2] => { results := [.lit (.bool false)], args := [d1, d2] }
  | _ => none }
def StoreMissingWrongFalsely : Prop := storeMissingRow.holds Tryz.pinned (OpenSpec.ofChange storeMissingWrong)

/-- 'braidlaw24.BuilderWrites': WHATEVER THE INPUT: true; the input reads as it did. -/
def builderWritesSpec : ChangeSpec := { name := "builderWrites", fn := fun _ => fun
  | [d1, d2, d3] => { results := [.lit (.bool true)], args := [d1, d2, d3] }
  | _ => none }
def builderWritesRow : OpenClaim := { program := "ytaapnlnileblaaagreatdoor", sum := "1e6cf9277a8a912d9f0d3f646f4eb6be8cada2d622982314d6cfa139630bf3ad", func := "braid/braidlaw24.BuilderWrites", spec := "builderWrites", inPlace := ["internal/bytealg.Compare"], unfollowed := true, recurses := true, named := ["braid/digest.constants"], plainKeys := false, apart := false, laid := [("braid/digest.constants", laid_braid_digest_constants)] }
def BuilderWritesSaid : Prop := builderWritesRow.holds Tryz.pinned (OpenSpec.ofChange builderWritesSpec)

/-- ITS FALSE NEIGHBOUR: 'it returns false'. Refute it at one input. -/
def builderWritesWrong : ChangeSpec := { name := "builderWrites", fn := fun _ => fun
  | [d1, d2, d3] => { results := [.lit (.bool false)], args := [d1, d2, d3] }
  | _ => none }
def BuilderWritesWrongFalsely : Prop := builderWritesRow.holds Tryz.pinned (OpenSpec.ofChange builderWritesWrong)

/-- 'braidlaw24.BuilderNames': WHATEVER THE INPUT: true; the input reads as it did. -/
def builderNamesSpec : ChangeSpec := { name := "builderNames", fn := fun _ => fun
  | [] => { results := [.lit (.bool true)], args := [] }
  | _ => none }
def builderNamesRow : OpenClaim := { program := "ytaapnlnileblaaagreatdoor", sum := "1e6cf9277a8a912d9f0d3f646f4eb6be8cada2d622982314d6cfa139630bf3ad", func := "braid/braidlaw24.BuilderNames", spec := "builderNames", inPlace := ["internal/bytealg.Compare"], unfollowed := true, recurses := true, named := ["braid/digest.constants"], plainKeys := false, apart := false, laid := [("braid/digest.constants", laid_braid_digest_constants)] }
def BuilderNamesSaid : Prop := builderNamesRow.holds Tryz.pinned (OpenSpec.ofChange builderNamesSpec)

/-- ITS FALSE NEIGHBOUR: 'it returns false'. Refute it at one input. -/
def builderNamesWrong : ChangeSpec := { name := "builderNames", fn := fun _ => fun
  | [] => { results := [.lit (.bool false)], args := [] }
  | _ => none }
def BuilderNamesWrongFalsely : Prop := builderNamesRow.holds Tryz.pinned (OpenSpec.ofChange builderNamesWrong)

/-- 'braidlaw24.BuilderBytes': WHATEVER THE INPUT: true; the input reads as it did. -/
def builderBytesSpec : ChangeSpec := { name := "builderBytes", fn := fun _ => fun
  | [d1, d2, d3, d4] => { results := [.lit (.bool true)], args := [d1, d2, d3, d4] }
  | _ => none }
def builderBytesRow : OpenClaim := { program := "ytaapnlnileblaaagreatdoor", sum := "1e6cf9277a8a912d9f0d3f646f4eb6be8cada2d622982314d6cfa139630bf3ad", func := "braid/braidlaw24.BuilderBytes", spec := "builderBytes", inPlace := ["internal/bytealg.Compare"], unfollowed := true, recurses := true, named := ["braid/digest.constants"], plainKeys := false, apart := false, laid := [("braid/digest.constants", laid_braid_digest_constants)] }
def BuilderBytesSaid : Prop := builderBytesRow.holds Tryz.pinned (OpenSpec.ofChange builderBytesSpec)

/-- ITS FALSE NEIGHBOUR: 'it returns false'. Refute it at one input. -/
def builderBytesWrong : ChangeSpec := { name := "builderBytes", fn := fun _ => fun
  | [d1, d2, d3, d4] => { results := [.lit (.bool false)], args := [d1, d2, d3, d4] }
  | _ => none }
def BuilderBytesWrongFalsely : Prop := builderBytesRow.holds Tryz.pinned (OpenSpec.ofChange builderBytesWrong)

/-- 'braidlaw24.BuilderCommits': WHATEVER THE INPUT: true; the input reads as it did. -/
def builderCommitsSpec : ChangeSpec := { name := "builderCommits", fn := fun _ => fun
  | [d1, d2, d3] => { results := [.lit (.bool true)], args := [d1, d2, d3] }
  | _ => none }
def builderCommitsRow : OpenClaim := { program := "ytaapnlnileblaaagreatdoor", sum := "1e6cf9277a8a912d9f0d3f646f4eb6be8cada2d622982314d6cfa139630bf3ad", func := "braid/braidlaw24.BuilderCommits", spec := "builderCommits", inPlace := ["internal/bytealg.Compare", "slices.overlaps[braid/api.ID]", "slices.overlaps[braid/api.Op]"], unfollowed := true, recurses := true, named := ["braid/digest.constants"], plainKeys := false, apart := false, laid := [("braid/digest.constants", laid_braid_digest_constants)] }
def BuilderCommitsSaid : Prop := builderCommitsRow.holds Tryz.pinned (OpenSpec.ofChange builderCommitsSpec)

/-- ITS FALSE NEIGHBOUR: 'it returns false'. Refute it at one input. -/
def builderCommitsWrong : ChangeSpec := { name := "builderCommits", fn := fun _ => fun
  | [d1, d2, d3] => { results := [.lit (.bool false)], args := [d1, d2, d3] }
  | _ => none }
def BuilderCommitsWrongFalsely : Prop := builderCommitsRow.holds Tryz.pinned (OpenSpec.ofChange builderCommitsWrong)

/-- 'braidlaw24.BuilderLater': WHATEVER THE INPUT: true; the input reads as it did. -/
def builderLaterSpec : ChangeSpec := { name := "builderLater", fn := fun _ => fun
  | [d1, d2, d3, d4] => { results := [.lit (.bool true)], args := [d1, d2, d3, d4] }
  | _ => none }
def builderLaterRow : OpenClaim := { program := "ytaapnlnileblaaagreatdoor", sum := "1e6cf9277a8a912d9f0d3f646f4eb6be8cada2d622982314d6cfa139630bf3ad", func := "braid/braidlaw24.BuilderLater", spec := "builderLater", inPlace := ["internal/bytealg.Compare", "slices.overlaps[braid/api.ID]", "slices.overlaps[braid/api.Op]"], unfollowed := true, recurses := true, named := ["braid/digest.constants"], plainKeys := false, apart := false, laid := [("braid/digest.constants", laid_braid_digest_constants)] }
def BuilderLaterSaid : Prop := builderLaterRow.holds Tryz.pinned (OpenSpec.ofChange builderLaterSpec)

/-- ITS FALSE NEIGHBOUR: 'it returns false'. Refute it at one input. -/
def builderLaterWrong : ChangeSpec := { name := "builderLater", fn := fun _ => fun
  | [d1, d2, d3, d4] => { results := [.lit (.bool false)], args := [d1, d2, d3, d4] }
  | _ => none }
def BuilderLaterWrongFalsely : Prop := builderLaterRow.holds Tryz.pinned (OpenSpec.ofChange builderLaterWrong)

/- THE SECOND FORM. 'bulk': how many values and letters a reading holds, each counted each time it is reached (what is shared counts as often as it is met; a slice's spare places count too). A statement '..UptoSaid' is the law's where the arguments, and the package variables that the reading takes, are together of bulk at most 1048576: NARROWER than '..Said'. Prove '..Said' where nothing that the law and all that it calls make is longer than what came in: it says more and counts as full. Else prove '..UptoSaid'. A law counts once. -/
mutual
def uptoBulk {H : Type} : DataW H → Nat
  | .lit (.string bytes) => bytes.length + 1
  | .lit _ => 1
  | .nil => 1
  | .ptr d => uptoBulk d + 1
  | .slice elems spare => uptoBulkAll elems + uptoBulkAll spare + 1
  | .agg parts => uptoBulkAll parts + 1
  | .iface _ d => uptoBulk d + 1
  | .map entries => uptoBulkEntries entries + 1
  | .held _ => 1
def uptoBulkAll {H : Type} : List (DataW H) → Nat
  | [] => 0
  | d :: r => uptoBulk d + uptoBulkAll r
def uptoBulkEntries {H : Type} : List (Lit × DataW H) → Nat
  | [] => 0
  | x :: r => uptoBulkEntry x + uptoBulkEntries r
def uptoBulkEntry {H : Type} : Lit × DataW H → Nat
  | (.string bytes, d) => bytes.length + uptoBulk d + 1
  | (_, d) => uptoBulk d + 1
 end
def uptoSmall : (H : Type) → List (DataW H) → Bool := fun _ ds => decide (uptoBulkAll ds ≤ 1048576)
def OpenSpec.upto (s : _root_.Go.ChangeSpec) : _root_.Go.OpenSpec := { _root_.Go.OpenSpec.ofChange s with cond := some uptoSmall }

/-- 'braidlaw12.StoreFinds', WHERE WHAT IT READS IS OF BULK AT MOST 1048576: true; the input reads as it did. -/
def storeFindsUptoRow : OpenClaim := { program := "ytaapnlnileblaaagreatdoor", sum := "1e6cf9277a8a912d9f0d3f646f4eb6be8cada2d622982314d6cfa139630bf3ad", func := "braid/braidlaw12.StoreFinds", spec := "storeFinds", inPlace := ["internal/bytealg.Compare"], unfollowed := true, recurses := true, named := ["braid/digest.constants"], plainKeys := false, apart := false, laid := [("braid/digest.constants", laid_braid_digest_constants)], narrowed := true }
def StoreFindsUptoSaid : Prop := storeFindsUptoRow.holds Tryz.pinned (OpenSpec.upto storeFindsSpec)

/-- 'braidlaw12.StoreOffers', WHERE WHAT IT READS IS OF BULK AT MOST 1048576: true; the input reads as it did. -/
def storeOffersUptoRow : OpenClaim := { program := "ytaapnlnileblaaagreatdoor", sum := "1e6cf9277a8a912d9f0d3f646f4eb6be8cada2d622982314d6cfa139630bf3ad", func := "braid/braidlaw12.StoreOffers", spec := "storeOffers", inPlace := ["internal/bytealg.Compare", "slices.overlaps[braid/api.ID]", "slices.overlaps[braid/api.Op]"], unfollowed := true, recurses := true, named := ["braid/digest.constants"], plainKeys := false, apart := false, laid := [("braid/digest.constants", laid_braid_digest_constants)], narrowed := true }
def StoreOffersUptoSaid : Prop := storeOffersUptoRow.holds Tryz.pinned (OpenSpec.upto storeOffersSpec)

/-- 'braidlaw12.StoreParts', WHERE WHAT IT READS IS OF BULK AT MOST 1048576: true; the input reads as it did. -/
def storePartsUptoRow : OpenClaim := { program := "ytaapnlnileblaaagreatdoor", sum := "1e6cf9277a8a912d9f0d3f646f4eb6be8cada2d622982314d6cfa139630bf3ad", func := "braid/braidlaw12.StoreParts", spec := "storeParts", inPlace := ["internal/bytealg.Compare", "slices.overlaps[braid/api.ID]", "slices.overlaps[braid/api.Op]"], unfollowed := true, recurses := true, named := ["braid/digest.constants"], plainKeys := false, apart := false, laid := [("braid/digest.constants", laid_braid_digest_constants)], narrowed := true }
def StorePartsUptoSaid : Prop := storePartsUptoRow.holds Tryz.pinned (OpenSpec.upto storePartsSpec)

/-- 'braidlaw12.StoreFirst', WHERE WHAT IT READS IS OF BULK AT MOST 1048576: true; the input reads as it did. -/
def storeFirstUptoRow : OpenClaim := { program := "ytaapnlnileblaaagreatdoor", sum := "1e6cf9277a8a912d9f0d3f646f4eb6be8cada2d622982314d6cfa139630bf3ad", func := "braid/braidlaw12.StoreFirst", spec := "storeFirst", inPlace := ["internal/bytealg.Compare", "slices.overlaps[braid/api.ID]", "slices.overlaps[braid/api.Op]"], unfollowed := true, recurses := true, named := ["braid/digest.constants"], plainKeys := false, apart := false, laid := [("braid/digest.constants", laid_braid_digest_constants)], narrowed := true }
def StoreFirstUptoSaid : Prop := storeFirstUptoRow.holds Tryz.pinned (OpenSpec.upto storeFirstSpec)

/-- 'braidlaw12.StoreShards', WHERE WHAT IT READS IS OF BULK AT MOST 1048576: true; the input reads as it did. -/
def storeShardsUptoRow : OpenClaim := { program := "ytaapnlnileblaaagreatdoor", sum := "1e6cf9277a8a912d9f0d3f646f4eb6be8cada2d622982314d6cfa139630bf3ad", func := "braid/braidlaw12.StoreShards", spec := "storeShards", inPlace := ["internal/bytealg.Compare", "slices.overlaps[braid/api.ID]", "slices.overlaps[braid/api.Op]"], unfollowed := true, recurses := true, named := ["braid/digest.constants"], plainKeys := false, apart := false, laid := [("braid/digest.constants", laid_braid_digest_constants)], narrowed := true }
def StoreShardsUptoSaid : Prop := storeShardsUptoRow.holds Tryz.pinned (OpenSpec.upto storeShardsSpec)

/-- 'braidlaw12.StoreNames', WHERE WHAT IT READS IS OF BULK AT MOST 1048576: true; the input reads as it did. -/
def storeNamesUptoRow : OpenClaim := { program := "ytaapnlnileblaaagreatdoor", sum := "1e6cf9277a8a912d9f0d3f646f4eb6be8cada2d622982314d6cfa139630bf3ad", func := "braid/braidlaw12.StoreNames", spec := "storeNames", inPlace := ["internal/bytealg.Compare", "slices.overlaps[braid/api.ID]", "slices.overlaps[braid/api.Op]"], unfollowed := true, recurses := true, named := ["braid/digest.constants"], plainKeys := false, apart := false, laid := [("braid/digest.constants", laid_braid_digest_constants)], narrowed := true }
def StoreNamesUptoSaid : Prop := storeNamesUptoRow.holds Tryz.pinned (OpenSpec.upto storeNamesSpec)

/-- 'braidlaw12.StoreMissing', WHERE WHAT IT READS IS OF BULK AT MOST 1048576: true; the input reads as it did. -/
def storeMissingUptoRow : OpenClaim := { program := "ytaapnlnileblaaagreatdoor", sum := "1e6cf9277a8a912d9f0d3f646f4eb6be8cada2d622982314d6cfa139630bf3ad", func := "braid/braidlaw12.StoreMissing", spec := "storeMissing", inPlace := ["internal/bytealg.Compare", "slices.overlaps[braid/api.ID]", "slices.overlaps[braid/api.Op]"], unfollowed := true, recurses := true, named := ["braid/digest.constants"], plainKeys := false, apart := false, laid := [("braid/digest.constants", laid_braid_digest_constants)], narrowed := true }
def StoreMissingUptoSaid : Prop := storeMissingUptoRow.holds Tryz.pinned (OpenSpec.upto storeMissingSpec)

/-- 'braidlaw24.BuilderWrites', WHERE WHAT IT READS IS OF BULK AT MOST 1048576: true; the input reads as it did. -/
def builderWritesUptoRow : OpenClaim := { program := "ytaapnlnileblaaagreatdoor", sum := "1e6cf9277a8a912d9f0d3f646f4eb6be8cada2d622982314d6cfa139630bf3ad", func := "braid/braidlaw24.BuilderWrites", spec := "builderWrites", inPlace := ["internal/bytealg.Compare"], unfollowed := true, recurses := true, named := ["braid/digest.constants"], plainKeys := false, apart := false, laid := [("braid/digest.constants", laid_braid_digest_constants)], narrowed := true }
def BuilderWritesUptoSaid : Prop := builderWritesUptoRow.holds Tryz.pinned (OpenSpec.upto builderWritesSpec)

/-- 'braidlaw24.BuilderNames', WHERE WHAT IT READS IS OF BULK AT MOST 1048576: true; the input reads as it did. -/
def builderNamesUptoRow : OpenClaim := { program := "ytaapnlnileblaaagreatdoor", sum := "1e6cf9277a8a912d9f0d3f646f4eb6be8cada2d622982314d6cfa139630bf3ad", func := "braid/braidlaw24.BuilderNames", spec := "builderNames", inPlace := ["internal/bytealg.Compare"], unfollowed := true, recurses := true, named := ["braid/digest.constants"], plainKeys := false, apart := false, laid := [("braid/digest.constants", laid_braid_digest_constants)], narrowed := true }
def BuilderNamesUptoSaid : Prop := builderNamesUptoRow.holds Tryz.pinned (OpenSpec.upto builderNamesSpec)

/-- 'braidlaw24.BuilderBytes', WHERE WHAT IT READS IS OF BULK AT MOST 1048576: true; the input reads as it did. -/
def builderBytesUptoRow : OpenClaim := { program := "ytaapnlnileblaaagreatdoor", sum := "1e6cf9277a8a912d9f0d3f646f4eb6be8cada2d622982314d6cfa139630bf3ad", func := "braid/braidlaw24.BuilderBytes", spec := "builderBytes", inPlace := ["internal/bytealg.Compare"], unfollowed := true, recurses := true, named := ["braid/digest.constants"], plainKeys := false, apart := false, laid := [("braid/digest.constants", laid_braid_digest_constants)], narrowed := true }
def BuilderBytesUptoSaid : Prop := builderBytesUptoRow.holds Tryz.pinned (OpenSpec.upto builderBytesSpec)

/-- 'braidlaw24.BuilderCommits', WHERE WHAT IT READS IS OF BULK AT MOST 1048576: true; the input reads as it did. -/
def builderCommitsUptoRow : OpenClaim := { program := "ytaapnlnileblaaagreatdoor", sum := "1e6cf9277a8a912d9f0d3f646f4eb6be8cada2d622982314d6cfa139630bf3ad", func := "braid/braidlaw24.BuilderCommits", spec := "builderCommits", inPlace := ["internal/bytealg.Compare", "slices.overlaps[braid/api.ID]", "slices.overlaps[braid/api.Op]"], unfollowed := true, recurses := true, named := ["braid/digest.constants"], plainKeys := false, apart := false, laid := [("braid/digest.constants", laid_braid_digest_constants)], narrowed := true }
def BuilderCommitsUptoSaid : Prop := builderCommitsUptoRow.holds Tryz.pinned (OpenSpec.upto builderCommitsSpec)

/-- 'braidlaw24.BuilderLater', WHERE WHAT IT READS IS OF BULK AT MOST 1048576: true; the input reads as it did. -/
def builderLaterUptoRow : OpenClaim := { program := "ytaapnlnileblaaagreatdoor", sum := "1e6cf9277a8a912d9f0d3f646f4eb6be8cada2d622982314d6cfa139630bf3ad", func := "braid/braidlaw24.BuilderLater", spec := "builderLater", inPlace := ["internal/bytealg.Compare", "slices.overlaps[braid/api.ID]", "slices.overlaps[braid/api.Op]"], unfollowed := true, recurses := true, named := ["braid/digest.constants"], plainKeys := false, apart := false, laid := [("braid/digest.constants", laid_braid_digest_constants)], narrowed := true }
def BuilderLaterUptoSaid : Prop := builderLaterUptoRow.holds Tryz.pinned (OpenSpec.upto builderLaterSpec)

end Rows
end Go.Proofs.YtaapnlnileblaaaGreatDoor
