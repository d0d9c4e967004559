/-
  No cell of these rows narrows 'for every input' (looked for: loops, veiled, ifaces, maps, wideKeys, modest, calm, conditions, laid).
  DERIVED. THE GIVEN ROWS OF THIS SEAT. 12 by the template 'for every input the law returns true; each argument reads behind the call as it read before'; 0 by the template 'total and deterministic' (their statements: YtnnppcoplinajaaGreatTotals.lean).
  GIVEN WITH THE SEED: the statements are not yours to turn. If you find one false, say at which input.
  Laid BY PROGRAM, IN A SANDBOX (cutbox-rows.mjs): the forced cells as the released guide's own fill.sh prints them over the translation 23f34645810b217a… (all of the seat's roots in one cut). By AI agents, Wed Nov 11 2026. No macro, syntax, notation, axiom, sorry.
-/
import Derived.Test.YtnnppcoplinajaaGreatChecked
import GoSem.Claim
import GoSem.ClaimJoined
import GoSem.ClaimMapViews
import Derived.JoinedTies
import Derived.KernelRfl
namespace Go.Proofs.YtnnppcoplinajaaGreat
/- THE CELL 'sum', in the pinned program and in every row, IS THE sha256 OF THE DUMP (.gsa) THAT YtnnppcoplinajaaGreatProg.lean LOADS. Nothing in Lean hashes anything: it is a label: what it is worth is what the hold of that sum in a sandbox is worth. -/
noncomputable def Tryz.pinned : Pinned := { name := "ytnnppcoplinajaagreat", sum := "23f34645810b217a02e5febe0f0b2e92973ab5544bcf33d7fe09774b25f467c6", checked := Tryz.checked }
namespace Rows
def none {H : Type} : Left H := { results := [], args := [] }

/-- 'planispherelaw20.ValidMatchesReference': WHATEVER THE INPUT: true; the input reads as it did. -/
def validMatchesReferenceSpec : ChangeSpec := { name := "validMatchesReference", fn := fun _ => fun
  | [d1, d2, d3, d4] => { results := [.lit (.bool true)], args := [d1, d2, d3, d4] }
  | _ => none }
def validMatchesReferenceRow : OpenClaim := { program := "ytnnppcoplinajaagreat", sum := "23f34645810b217a02e5febe0f0b2e92973ab5544bcf33d7fe09774b25f467c6", func := "planisphere/planispherelaw20.ValidMatchesReference", spec := "validMatchesReference", inPlace := ["internal/bytealg.IndexByteString"], unfollowed := true, recurses := true, plainKeys := false, apart := false }
def ValidMatchesReferenceSaid : Prop := validMatchesReferenceRow.holds Tryz.pinned (OpenSpec.ofChange validMatchesReferenceSpec)

/-- ITS FALSE NEIGHBOUR: 'it returns false'. Refute it at one input. -/
def validMatchesReferenceWrong : ChangeSpec := { name := "validMatchesReference", fn := fun _ => fun
  | [d1, d2, d3, d4] => { results := [.lit (.bool false)], args := [d1, d2, d3, d4] }
  | _ => none }
def ValidMatchesReferenceWrongFalsely : Prop := validMatchesReferenceRow.holds Tryz.pinned (OpenSpec.ofChange validMatchesReferenceWrong)

/-- 'planispherelaw20.ValidParts': WHATEVER THE INPUT: true; the input reads as it did. -/
def validPartsSpec : ChangeSpec := { name := "validParts", fn := fun _ => fun
  | [d1, d2, d3] => { results := [.lit (.bool true)], args := [d1, d2, d3] }
  | _ => none }
def validPartsRow : OpenClaim := { program := "ytnnppcoplinajaagreat", sum := "23f34645810b217a02e5febe0f0b2e92973ab5544bcf33d7fe09774b25f467c6", func := "planisphere/planispherelaw20.ValidParts", spec := "validParts", inPlace := ["internal/bytealg.IndexByteString"], unfollowed := true, recurses := true, plainKeys := false, apart := false }
def ValidPartsSaid : Prop := validPartsRow.holds Tryz.pinned (OpenSpec.ofChange validPartsSpec)

/-- ITS FALSE NEIGHBOUR: 'it returns false'. Refute it at one input. -/
def validPartsWrong : ChangeSpec := { name := "validParts", fn := fun _ => fun
  | [d1, d2, d3] => { results := [.lit (.bool false)], args := [d1, d2, d3] }
  | _ => none }
def ValidPartsWrongFalsely : Prop := validPartsRow.holds Tryz.pinned (OpenSpec.ofChange validPartsWrong)

/-- 'planispherelaw20.ValidViews': WHATEVER THE INPUT: true; the input reads as it did. -/
def validViewsSpec : ChangeSpec := { name := "validViews", fn := fun _ => fun
  | [d1, d2] => { results := [.lit (.bool true)], args := [d1, d2] }
  | _ => none }
def validViewsRow : OpenClaim := { program := "ytnnppcoplinajaagreat", sum := "23f34645810b217a02e5febe0f0b2e92973ab5544bcf33d7fe09774b25f467c6", func := "planisphere/planispherelaw20.ValidViews", spec := "validViews", inPlace := ["internal/bytealg.IndexByteString"], unfollowed := true, recurses := true, plainKeys := false, apart := false }
def ValidViewsSaid : Prop := validViewsRow.holds Tryz.pinned (OpenSpec.ofChange validViewsSpec)

/-- ITS FALSE NEIGHBOUR: 'it returns false'. Refute it at one input. -/
def validViewsWrong : ChangeSpec := { name := "validViews", fn := fun _ => fun
  | [d1, d2] => { results := [.lit (.bool false)], args := [d1, d2] }
  | _ => none }
def ValidViewsWrongFalsely : Prop := validViewsRow.holds Tryz.pinned (OpenSpec.ofChange validViewsWrong)

/-- 'planispherelaw20.ValidShown': WHATEVER THE INPUT: true; the input reads as it did. -/
def validShownSpec : ChangeSpec := { name := "validShown", fn := fun _ => fun
  | [d1, d2] => { results := [.lit (.bool true)], args := [d1, d2] }
  | _ => none }
def validShownRow : OpenClaim := { program := "ytnnppcoplinajaagreat", sum := "23f34645810b217a02e5febe0f0b2e92973ab5544bcf33d7fe09774b25f467c6", func := "planisphere/planispherelaw20.ValidShown", spec := "validShown", inPlace := ["internal/bytealg.IndexByteString"], unfollowed := true, recurses := true, plainKeys := false, apart := false }
def ValidShownSaid : Prop := validShownRow.holds Tryz.pinned (OpenSpec.ofChange validShownSpec)

/-- ITS FALSE NEIGHBOUR: 'it returns false'. Refute it at one input. -/
def validShownWrong : ChangeSpec := { name := "validShown", fn := fun _ => fun
  | [d1, d2] => { results := [.lit (.bool false)], args := [d1, d2] }
  | _ => none }
def ValidShownWrongFalsely : Prop := validShownRow.holds Tryz.pinned (OpenSpec.ofChange validShownWrong)

/-- 'planispherelaw20.ValidApart': WHATEVER THE INPUT: true; the input reads as it did. -/
def validApartSpec : ChangeSpec := { name := "validApart", fn := fun _ => fun
  | [d1, d2, d3] => { results := [.lit (.bool true)], args := [d1, d2, d3] }
  | _ => none }
def validApartRow : OpenClaim := { program := "ytnnppcoplinajaagreat", sum := "23f34645810b217a02e5febe0f0b2e92973ab5544bcf33d7fe09774b25f467c6", func := "planisphere/planispherelaw20.ValidApart", spec := "validApart", inPlace := ["internal/bytealg.IndexByteString", "internal/bytealg.abigen_runtime_cmpstring", "slices.overlaps[planisphere/api.Object]"], unfollowed := true, recurses := true, plainKeys := false, apart := false }
def ValidApartSaid : Prop := validApartRow.holds Tryz.pinned (OpenSpec.ofChange validApartSpec)

/-- ITS FALSE NEIGHBOUR: 'it returns false'. Refute it at one input. -/
def validApartWrong : ChangeSpec := { name := "validApart", fn := fun _ => fun
  | [d1, d2, d3] => { results := [.lit (.bool false)], args := [d1, d2, d3] }
  | _ => none }
def ValidApartWrongFalsely : Prop := validApartRow.holds Tryz.pinned (OpenSpec.ofChange validApartWrong)

/-- 'planispherelaw23.PartUnits': WHATEVER THE INPUT: true; the input reads as it did. -/
def partUnitsSpec : ChangeSpec := { name := "partUnits", fn := fun _ => fun
  | [d1, d2, d3] => { results := [.lit (.bool true)], args := [d1, d2, d3] }
  | _ => none }
def partUnitsRow : OpenClaim := { program := "ytnnppcoplinajaagreat", sum := "23f34645810b217a02e5febe0f0b2e92973ab5544bcf33d7fe09774b25f467c6", func := "planisphere/planispherelaw23.PartUnits", spec := "partUnits", inPlace := ["internal/bytealg.IndexByteString", "internal/abi.NoEscape", "internal/bytealg.MakeNoZero", "internal/bytealg.abigen_runtime_cmpstring", "slices.overlaps[planisphere/api.Tag]", "slices.overlaps[planisphere/api.Object]"], unfollowed := true, recurses := true, plainKeys := false, apart := false }
def PartUnitsSaid : Prop := partUnitsRow.holds Tryz.pinned (OpenSpec.ofChange partUnitsSpec)

/-- ITS FALSE NEIGHBOUR: 'it returns false'. Refute it at one input. -/
def partUnitsWrong : ChangeSpec := { name := "partUnits", fn := fun _ => fun
  | [d1, d2, d3] => { results := [.lit (.bool false)], args := [d1, d2, d3] }
  | _ => none }
def PartUnitsWrongFalsely : Prop := partUnitsRow.holds Tryz.pinned (OpenSpec.ofChange partUnitsWrong)

/-- 'planispherelaw23.PartAgain': WHATEVER THE INPUT: true; the input reads as it did. -/
def partAgainSpec : ChangeSpec := { name := "partAgain", fn := fun _ => fun
  | [d1, d2, d3] => { results := [.lit (.bool true)], args := [d1, d2, d3] }
  | _ => none }
def partAgainRow : OpenClaim := { program := "ytnnppcoplinajaagreat", sum := "23f34645810b217a02e5febe0f0b2e92973ab5544bcf33d7fe09774b25f467c6", func := "planisphere/planispherelaw23.PartAgain", spec := "partAgain", inPlace := ["internal/bytealg.IndexByteString", "internal/abi.NoEscape", "internal/bytealg.MakeNoZero", "internal/bytealg.abigen_runtime_cmpstring", "slices.overlaps[planisphere/api.Tag]", "slices.overlaps[planisphere/api.Object]"], unfollowed := true, recurses := true, plainKeys := false, apart := false }
def PartAgainSaid : Prop := partAgainRow.holds Tryz.pinned (OpenSpec.ofChange partAgainSpec)

/-- ITS FALSE NEIGHBOUR: 'it returns false'. Refute it at one input. -/
def partAgainWrong : ChangeSpec := { name := "partAgain", fn := fun _ => fun
  | [d1, d2, d3] => { results := [.lit (.bool false)], args := [d1, d2, d3] }
  | _ => none }
def PartAgainWrongFalsely : Prop := partAgainRow.holds Tryz.pinned (OpenSpec.ofChange partAgainWrong)

/-- 'planispherelaw23.PartKeeps': WHATEVER THE INPUT: true; the input reads as it did. -/
def partKeepsSpec : ChangeSpec := { name := "partKeeps", fn := fun _ => fun
  | [d1, d2, d3] => { results := [.lit (.bool true)], args := [d1, d2, d3] }
  | _ => none }
def partKeepsRow : OpenClaim := { program := "ytnnppcoplinajaagreat", sum := "23f34645810b217a02e5febe0f0b2e92973ab5544bcf33d7fe09774b25f467c6", func := "planisphere/planispherelaw23.PartKeeps", spec := "partKeeps", inPlace := ["internal/bytealg.IndexByteString", "internal/abi.NoEscape", "internal/bytealg.MakeNoZero", "internal/bytealg.abigen_runtime_cmpstring", "slices.overlaps[planisphere/api.Tag]", "slices.overlaps[planisphere/api.Object]"], unfollowed := true, recurses := true, plainKeys := false, apart := false }
def PartKeepsSaid : Prop := partKeepsRow.holds Tryz.pinned (OpenSpec.ofChange partKeepsSpec)

/-- ITS FALSE NEIGHBOUR: 'it returns false'. Refute it at one input. -/
def partKeepsWrong : ChangeSpec := { name := "partKeeps", fn := fun _ => fun
  | [d1, d2, d3] => { results := [.lit (.bool false)], args := [d1, d2, d3] }
  | _ => none }
def PartKeepsWrongFalsely : Prop := partKeepsRow.holds Tryz.pinned (OpenSpec.ofChange partKeepsWrong)

/-- 'planispherelaw23.PartGreatest': WHATEVER THE INPUT: true; the input reads as it did. -/
def partGreatestSpec : ChangeSpec := { name := "partGreatest", fn := fun _ => fun
  | [d1, d2, d3] => { results := [.lit (.bool true)], args := [d1, d2, d3] }
  | _ => none }
def partGreatestRow : OpenClaim := { program := "ytnnppcoplinajaagreat", sum := "23f34645810b217a02e5febe0f0b2e92973ab5544bcf33d7fe09774b25f467c6", func := "planisphere/planispherelaw23.PartGreatest", spec := "partGreatest", inPlace := ["internal/bytealg.IndexByteString", "internal/abi.NoEscape", "internal/bytealg.MakeNoZero", "internal/bytealg.abigen_runtime_cmpstring", "slices.overlaps[planisphere/api.Tag]", "slices.overlaps[planisphere/api.Object]"], unfollowed := true, recurses := true, plainKeys := false, apart := false }
def PartGreatestSaid : Prop := partGreatestRow.holds Tryz.pinned (OpenSpec.ofChange partGreatestSpec)

/-- ITS FALSE NEIGHBOUR: 'it returns false'. Refute it at one input. -/
def partGreatestWrong : ChangeSpec := { name := "partGreatest", fn := fun _ => fun
  | [d1, d2, d3] => { results := [.lit (.bool false)], args := [d1, d2, d3] }
  | _ => none }
def PartGreatestWrongFalsely : Prop := partGreatestRow.holds Tryz.pinned (OpenSpec.ofChange partGreatestWrong)

/-- 'planispherelaw26.MergeMatchesReference': WHATEVER THE INPUT: true; the input reads as it did. -/
def mergeMatchesReferenceSpec : ChangeSpec := { name := "mergeMatchesReference", fn := fun _ => fun
  | [d1, d2, d3] => { results := [.lit (.bool true)], args := [d1, d2, d3] }
  | _ => none }
def mergeMatchesReferenceRow : OpenClaim := { program := "ytnnppcoplinajaagreat", sum := "23f34645810b217a02e5febe0f0b2e92973ab5544bcf33d7fe09774b25f467c6", func := "planisphere/planispherelaw26.MergeMatchesReference", spec := "mergeMatchesReference", inPlace := ["internal/bytealg.IndexByteString", "internal/bytealg.abigen_runtime_cmpstring", "slices.overlaps[planisphere/api.Tag]", "slices.overlaps[planisphere/api.Object]", "internal/abi.NoEscape", "internal/bytealg.MakeNoZero"], unfollowed := true, recurses := true, plainKeys := false, apart := false }
def MergeMatchesReferenceSaid : Prop := mergeMatchesReferenceRow.holds Tryz.pinned (OpenSpec.ofChange mergeMatchesReferenceSpec)

/-- ITS FALSE NEIGHBOUR: 'it returns false'. Refute it at one input. -/
def mergeMatchesReferenceWrong : ChangeSpec := { name := "mergeMatchesReference", fn := fun _ => fun
  | [d1, d2, d3] => { results := [.lit (.bool false)], args := [d1, d2, d3] }
  | _ => none }
def MergeMatchesReferenceWrongFalsely : Prop := mergeMatchesReferenceRow.holds Tryz.pinned (OpenSpec.ofChange mergeMatchesReferenceWrong)

/-- 'planispherelaw26.MergeSettlesAsReference': WHATEVER THE INPUT: true; the input reads as it did. -/
def mergeSettlesAsReferenceSpec : ChangeSpec := { name := "mergeSettlesAsReference", fn := fun _ => fun
  | [d1, d2, d3] => { results := [.lit (.bool true)], args := [d1, d2, d3] }
  | _ => none }
def mergeSettlesAsReferenceRow : OpenClaim := { program := "ytnnppcoplinajaagreat", sum := "23f34645810b217a02e5febe0f0b2e92973ab5544bcf33d7fe09774b25f467c6", func := "planisphere/planispherelaw26.MergeSettlesAsReference", spec := "mergeSettlesAsReference", inPlace := ["internal/bytealg.IndexByteString", "internal/bytealg.abigen_runtime_cmpstring", "slices.overlaps[planisphere/api.Tag]", "slices.overlaps[planisphere/api.Object]", "internal/abi.NoEscape", "internal/bytealg.MakeNoZero"], unfollowed := true, recurses := true, plainKeys := false, apart := false }
def MergeSettlesAsReferenceSaid : Prop := mergeSettlesAsReferenceRow.holds Tryz.pinned (OpenSpec.ofChange mergeSettlesAsReferenceSpec)

/-- ITS FALSE NEIGHBOUR: 'it returns false'. Refute it at one input. -/
def mergeSettlesAsReferenceWrong : ChangeSpec := { name := "mergeSettlesAsReference", fn := fun _ => fun
  | [d1, d2, d3] => { results := [.lit (.bool false)], args := [d1, d2, d3] }
  | _ => none }
def MergeSettlesAsReferenceWrongFalsely : Prop := mergeSettlesAsReferenceRow.holds Tryz.pinned (OpenSpec.ofChange mergeSettlesAsReferenceWrong)

/-- 'planispherelaw26.MergeSettles': WHATEVER THE INPUT: true; the input reads as it did. -/
def mergeSettlesSpec : ChangeSpec := { name := "mergeSettles", fn := fun _ => fun
  | [d1, d2, d3] => { results := [.lit (.bool true)], args := [d1, d2, d3] }
  | _ => none }
def mergeSettlesRow : OpenClaim := { program := "ytnnppcoplinajaagreat", sum := "23f34645810b217a02e5febe0f0b2e92973ab5544bcf33d7fe09774b25f467c6", func := "planisphere/planispherelaw26.MergeSettles", spec := "mergeSettles", inPlace := ["internal/bytealg.IndexByteString", "internal/bytealg.abigen_runtime_cmpstring", "slices.overlaps[planisphere/api.Tag]", "slices.overlaps[planisphere/api.Object]", "internal/abi.NoEscape", "internal/bytealg.MakeNoZero"], unfollowed := true, recurses := true, plainKeys := false, apart := false }
def MergeSettlesSaid : Prop := mergeSettlesRow.holds Tryz.pinned (OpenSpec.ofChange mergeSettlesSpec)

/-- ITS FALSE NEIGHBOUR: 'it returns false'. Refute it at one input. -/
def mergeSettlesWrong : ChangeSpec := { name := "mergeSettles", fn := fun _ => fun
  | [d1, d2, d3] => { results := [.lit (.bool false)], args := [d1, d2, d3] }
  | _ => none }
def MergeSettlesWrongFalsely : Prop := mergeSettlesRow.holds Tryz.pinned (OpenSpec.ofChange mergeSettlesWrong)

/- THE SECOND FORM. 'bulk': how many values and letters a reading holds, each counted each time it is reached (what is shared counts as often as it is met; a slice's spare places count too). A statement '..UptoSaid' is the law's where the arguments, and the package variables that the reading takes, are together of bulk at most 1048576: NARROWER than '..Said'. Prove '..Said' where nothing that the law and all that it calls make is longer than what came in: it says more and counts as full. Else prove '..UptoSaid'. A law counts once. -/
mutual
def uptoBulk {H : Type} : DataW H → Nat
  | .lit (.string bytes) => bytes.length + 1
  | .lit _ => 1
  | .nil => 1
  | .ptr d => uptoBulk d + 1
  | .slice elems spare => uptoBulkAll elems + uptoBulkAll spare + 1
  | .agg parts => uptoBulkAll parts + 1
  | .iface _ d => uptoBulk d + 1
  | .map entries => uptoBulkEntries entries + 1
  | .held _ => 1
def uptoBulkAll {H : Type} : List (DataW H) → Nat
  | [] => 0
  | d :: r => uptoBulk d + uptoBulkAll r
def uptoBulkEntries {H : Type} : List (Lit × DataW H) → Nat
  | [] => 0
  | x :: r => uptoBulkEntry x + uptoBulkEntries r
def uptoBulkEntry {H : Type} : Lit × DataW H → Nat
  | (.string bytes, d) => bytes.length + uptoBulk d + 1
  | (_, d) => uptoBulk d + 1
 end
def uptoSmall : (H : Type) → List (DataW H) → Bool := fun _ ds => decide (uptoBulkAll ds ≤ 1048576)
def OpenSpec.upto (s : _root_.Go.ChangeSpec) : _root_.Go.OpenSpec := { _root_.Go.OpenSpec.ofChange s with cond := some uptoSmall }

/-- 'planispherelaw20.ValidMatchesReference', WHERE WHAT IT READS IS OF BULK AT MOST 1048576: true; the input reads as it did. -/
def validMatchesReferenceUptoRow : OpenClaim := { program := "ytnnppcoplinajaagreat", sum := "23f34645810b217a02e5febe0f0b2e92973ab5544bcf33d7fe09774b25f467c6", func := "planisphere/planispherelaw20.ValidMatchesReference", spec := "validMatchesReference", inPlace := ["internal/bytealg.IndexByteString"], unfollowed := true, recurses := true, plainKeys := false, apart := false, narrowed := true }
def ValidMatchesReferenceUptoSaid : Prop := validMatchesReferenceUptoRow.holds Tryz.pinned (OpenSpec.upto validMatchesReferenceSpec)

/-- 'planispherelaw20.ValidParts', WHERE WHAT IT READS IS OF BULK AT MOST 1048576: true; the input reads as it did. -/
def validPartsUptoRow : OpenClaim := { program := "ytnnppcoplinajaagreat", sum := "23f34645810b217a02e5febe0f0b2e92973ab5544bcf33d7fe09774b25f467c6", func := "planisphere/planispherelaw20.ValidParts", spec := "validParts", inPlace := ["internal/bytealg.IndexByteString"], unfollowed := true, recurses := true, plainKeys := false, apart := false, narrowed := true }
def ValidPartsUptoSaid : Prop := validPartsUptoRow.holds Tryz.pinned (OpenSpec.upto validPartsSpec)

/-- 'planispherelaw20.ValidViews', WHERE WHAT IT READS IS OF BULK AT MOST 1048576: true; the input reads as it did. -/
def validViewsUptoRow : OpenClaim := { program := "ytnnppcoplinajaagreat", sum := "23f34645810b217a02e5febe0f0b2e92973ab5544bcf33d7fe09774b25f467c6", func := "planisphere/planispherelaw20.ValidViews", spec := "validViews", inPlace := ["internal/bytealg.IndexByteString"], unfollowed := true, recurses := true, plainKeys := false, apart := false, narrowed := true }
def ValidViewsUptoSaid : Prop := validViewsUptoRow.holds Tryz.pinned (OpenSpec.upto validViewsSpec)

/-- 'planispherelaw20.ValidShown', WHERE WHAT IT READS IS OF BULK AT MOST 1048576: true; the input reads as it did. -/
def validShownUptoRow : OpenClaim := { program := "ytnnppcoplinajaagreat", sum := "23f34645810b217a02e5febe0f0b2e92973ab5544bcf33d7fe09774b25f467c6", func := "planisphere/planispherelaw20.ValidShown", spec := "validShown", inPlace := ["internal/bytealg.IndexByteString"], unfollowed := true, recurses := true, plainKeys := false, apart := false, narrowed := true }
def ValidShownUptoSaid : Prop := validShownUptoRow.holds Tryz.pinned (OpenSpec.upto validShownSpec)

/-- 'planispherelaw20.ValidApart', WHERE WHAT IT READS IS OF BULK AT MOST 1048576: true; the input reads as it did. -/
def validApartUptoRow : OpenClaim := { program := "ytnnppcoplinajaagreat", sum := "23f34645810b217a02e5febe0f0b2e92973ab5544bcf33d7fe09774b25f467c6", func := "planisphere/planispherelaw20.ValidApart", spec := "validApart", inPlace := ["internal/bytealg.IndexByteString", "internal/bytealg.abigen_runtime_cmpstring", "slices.overlaps[planisphere/api.Object]"], unfollowed := true, recurses := true, plainKeys := false, apart := false, narrowed := true }
def ValidApartUptoSaid : Prop := validApartUptoRow.holds Tryz.pinned (OpenSpec.upto validApartSpec)

/-- 'planispherelaw23.PartUnits', WHERE WHAT IT READS IS OF BULK AT MOST 1048576: true; the input reads as it did. -/
def partUnitsUptoRow : OpenClaim := { program := "ytnnppcoplinajaagreat", sum := "23f34645810b217a02e5febe0f0b2e92973ab5544bcf33d7fe09774b25f467c6", func := "planisphere/planispherelaw23.PartUnits", spec := "partUnits", inPlace := ["internal/bytealg.IndexByteString", "internal/abi.NoEscape", "internal/bytealg.MakeNoZero", "internal/bytealg.abigen_runtime_cmpstring", "slices.overlaps[planisphere/api.Tag]", "slices.overlaps[planisphere/api.Object]"], unfollowed := true, recurses := true, plainKeys := false, apart := false, narrowed := true }
def PartUnitsUptoSaid : Prop := partUnitsUptoRow.holds Tryz.pinned (OpenSpec.upto partUnitsSpec)

/-- 'planispherelaw23.PartAgain', WHERE WHAT IT READS IS OF BULK AT MOST 1048576: true; the input reads as it did. -/
def partAgainUptoRow : OpenClaim := { program := "ytnnppcoplinajaagreat", sum := "23f34645810b217a02e5febe0f0b2e92973ab5544bcf33d7fe09774b25f467c6", func := "planisphere/planispherelaw23.PartAgain", spec := "partAgain", inPlace := ["internal/bytealg.IndexByteString", "internal/abi.NoEscape", "internal/bytealg.MakeNoZero", "internal/bytealg.abigen_runtime_cmpstring", "slices.overlaps[planisphere/api.Tag]", "slices.overlaps[planisphere/api.Object]"], unfollowed := true, recurses := true, plainKeys := false, apart := false, narrowed := true }
def PartAgainUptoSaid : Prop := partAgainUptoRow.holds Tryz.pinned (OpenSpec.upto partAgainSpec)

/-- 'planispherelaw23.PartKeeps', WHERE WHAT IT READS IS OF BULK AT MOST 1048576: true; the input reads as it did. -/
def partKeepsUptoRow : OpenClaim := { program := "ytnnppcoplinajaagreat", sum := "23f34645810b217a02e5febe0f0b2e92973ab5544bcf33d7fe09774b25f467c6", func := "planisphere/planispherelaw23.PartKeeps", spec := "partKeeps", inPlace := ["internal/bytealg.IndexByteString", "internal/abi.NoEscape", "internal/bytealg.MakeNoZero", "internal/bytealg.abigen_runtime_cmpstring", "slices.overlaps[planisphere/api.Tag]", "slices.overlaps[planisphere/api.Object]"], unfollowed := true, recurses := true, plainKeys := false, apart := false, narrowed := true }
def PartKeepsUptoSaid : Prop := partKeepsUptoRow.holds Tryz.pinned (OpenSpec.upto partKeepsSpec)

/-- 'planispherelaw23.PartGreatest', WHERE WHAT IT READS IS OF BULK AT MOST 1048576: true; the input reads as it did. -/
def partGreatestUptoRow : OpenClaim := { program := "ytnnppcoplinajaagreat", sum := "23f34645810b217a02e5febe0f0b2e92973ab5544bcf33d7fe09774b25f467c6", func := "planisphere/planispherelaw23.PartGreatest", spec := "partGreatest", inPlace := ["internal/bytealg.IndexByteString", "internal/abi.NoEscape", "internal/bytealg.MakeNoZero", "internal/bytealg.abigen_runtime_cmpstring", "slices.overlaps[planisphere/api.Tag]", "slices.overlaps[planisphere/api.Object]"], unfollowed := true, recurses := true, plainKeys := false, apart := false, narrowed := true }
def PartGreatestUptoSaid : Prop := partGreatestUptoRow.holds Tryz.pinned (OpenSpec.upto partGreatestSpec)

/-- 'planispherelaw26.MergeMatchesReference', WHERE WHAT IT READS IS OF BULK AT MOST 1048576: true; the input reads as it did. -/
def mergeMatchesReferenceUptoRow : OpenClaim := { program := "ytnnppcoplinajaagreat", sum := "23f34645810b217a02e5febe0f0b2e92973ab5544bcf33d7fe09774b25f467c6", func := "planisphere/planispherelaw26.MergeMatchesReference", spec := "mergeMatchesReference", inPlace := ["internal/bytealg.IndexByteString", "internal/bytealg.abigen_runtime_cmpstring", "slices.overlaps[planisphere/api.Tag]", "slices.overlaps[planisphere/api.Object]", "internal/abi.NoEscape", "internal/bytealg.MakeNoZero"], unfollowed := true, recurses := true, plainKeys := false, apart := false, narrowed := true }
def MergeMatchesReferenceUptoSaid : Prop := mergeMatchesReferenceUptoRow.holds Tryz.pinned (OpenSpec.upto mergeMatchesReferenceSpec)

/-- 'planispherelaw26.MergeSettlesAsReference', WHERE WHAT IT READS IS OF BULK AT MOST 1048576: true; the input reads as it did. -/
def mergeSettlesAsReferenceUptoRow : OpenClaim := { program := "ytnnppcoplinajaagreat", sum := "23f34645810b217a02e5febe0f0b2e92973ab5544bcf33d7fe09774b25f467c6", func := "planisphere/planispherelaw26.MergeSettlesAsReference", spec := "mergeSettlesAsReference", inPlace := ["internal/bytealg.IndexByteString", "internal/bytealg.abigen_runtime_cmpstring", "slices.overlaps[planisphere/api.Tag]", "slices.overlaps[planisphere/api.Object]", "internal/abi.NoEscape", "internal/bytealg.MakeNoZero"], unfollowed := true, recurses := true, plainKeys := false, apart := false, narrowed := true }
def MergeSettlesAsReferenceUptoSaid : Prop := mergeSettlesAsReferenceUptoRow.holds Tryz.pinned (OpenSpec.upto mergeSettlesAsReferenceSpec)

/-- 'planispherelaw26.MergeSettles', WHERE WHAT IT READS IS OF BULK AT MOST 1048576: true; the input reads as it did. -/
def mergeSettlesUptoRow : OpenClaim := { program := "ytnnppcoplinajaagreat", sum := "23f34645810b217a02e5febe0f0b2e92973ab5544bcf33d7fe09774b25f467c6", func := "planisphere/planispherelaw26.MergeSettles", spec := "mergeSettles", inPlace := ["internal/bytealg.IndexByteString", "internal/bytealg.abigen_runtime_cmpstring", "slices.overlaps[planisphere/api.Tag]", "slices.overlaps[planisphere/api.Object]", "internal/abi.NoEscape", "internal/bytealg.MakeNoZero"], unfollowed := true, recurses := true, plainKeys := false, apart := false, narrowed := true }
def MergeSettlesUptoSaid : Prop := mergeSettlesUptoRow.holds Tryz.pinned (OpenSpec.upto mergeSettlesSpec)

end Rows
end Go.Proofs.YtnnppcoplinajaaGreat
