/-
  No cell of these rows narrows 'for every input' (looked for: loops, veiled, ifaces, maps, wideKeys, modest, calm, conditions, laid).
  DERIVED. THE GIVEN ROWS OF THIS SEAT. 4 by the template 'for every input the law returns true; each argument reads behind the call as it read before'; 0 by the template 'total and deterministic' (their statements: YtbfmdojdemckbaaGreatTotals.lean).
  GIVEN WITH THE SEED: the statements are not yours to turn. If you find one false, say at which input.
  Laid BY PROGRAM, IN A SANDBOX (cutbox-rows.mjs): the forced cells as the released guide's own fill.sh prints them over the translation 7fa747d141ec603e… (all of the seat's roots in one cut). By AI agents, Wed Nov 11 2026. No macro, syntax, notation, axiom, sorry.
-/
import Derived.Test.YtbfmdojdemckbaaGreatChecked
import GoSem.Claim
import GoSem.ClaimJoined
import GoSem.ClaimMapViews
import Derived.JoinedTies
import Derived.KernelRfl
namespace Go.Proofs.YtbfmdojdemckbaaGreat
/- THE CELL 'sum', in the pinned program and in every row, IS THE sha256 OF THE DUMP (.gsa) THAT YtbfmdojdemckbaaGreatProg.lean LOADS. Nothing in Lean hashes anything: it is a label: what it is worth is what the hold of that sum in a sandbox is worth. -/
noncomputable def Tryz.pinned : Pinned := { name := "ytbfmdojdemckbaagreat", sum := "7fa747d141ec603e5165607f1b0c8dbab632adbf58d4fcf2fda529ec6ad140d4", checked := Tryz.checked }
namespace Rows
def none {H : Type} : Left H := { results := [], args := [] }

/-- 'planispherelaw26.MergeBoth': WHATEVER THE INPUT: true; the input reads as it did. -/
def mergeBothSpec : ChangeSpec := { name := "mergeBoth", fn := fun _ => fun
  | [d1, d2, d3] => { results := [.lit (.bool true)], args := [d1, d2, d3] }
  | _ => none }
def mergeBothRow : OpenClaim := { program := "ytbfmdojdemckbaagreat", sum := "7fa747d141ec603e5165607f1b0c8dbab632adbf58d4fcf2fda529ec6ad140d4", func := "planisphere/planispherelaw26.MergeBoth", spec := "mergeBoth", inPlace := ["internal/bytealg.IndexByteString", "internal/bytealg.abigen_runtime_cmpstring", "slices.overlaps[planisphere/api.Tag]", "slices.overlaps[planisphere/api.Object]", "internal/abi.NoEscape", "internal/bytealg.MakeNoZero"], unfollowed := true, recurses := true, plainKeys := false, apart := false }
def MergeBothSaid : Prop := mergeBothRow.holds Tryz.pinned (OpenSpec.ofChange mergeBothSpec)

/-- ITS FALSE NEIGHBOUR: 'it returns false'. Refute it at one input. -/
def mergeBothWrong : ChangeSpec := { name := "mergeBoth", fn := fun _ => fun
  | [d1, d2, d3] => { results := [.lit (.bool false)], args := [d1, d2, d3] }
  | _ => none }
def MergeBothWrongFalsely : Prop := mergeBothRow.holds Tryz.pinned (OpenSpec.ofChange mergeBothWrong)

/-- 'planispherelaw26.MergeOne': WHATEVER THE INPUT: true; the input reads as it did. -/
def mergeOneSpec : ChangeSpec := { name := "mergeOne", fn := fun _ => fun
  | [d1, d2] => { results := [.lit (.bool true)], args := [d1, d2] }
  | _ => none }
def mergeOneRow : OpenClaim := { program := "ytbfmdojdemckbaagreat", sum := "7fa747d141ec603e5165607f1b0c8dbab632adbf58d4fcf2fda529ec6ad140d4", func := "planisphere/planispherelaw26.MergeOne", spec := "mergeOne", inPlace := ["internal/bytealg.IndexByteString", "internal/bytealg.abigen_runtime_cmpstring", "slices.overlaps[planisphere/api.Tag]", "slices.overlaps[planisphere/api.Object]", "internal/abi.NoEscape", "internal/bytealg.MakeNoZero"], unfollowed := true, recurses := true, plainKeys := false, apart := false }
def MergeOneSaid : Prop := mergeOneRow.holds Tryz.pinned (OpenSpec.ofChange mergeOneSpec)

/-- ITS FALSE NEIGHBOUR: 'it returns false'. Refute it at one input. -/
def mergeOneWrong : ChangeSpec := { name := "mergeOne", fn := fun _ => fun
  | [d1, d2] => { results := [.lit (.bool false)], args := [d1, d2] }
  | _ => none }
def MergeOneWrongFalsely : Prop := mergeOneRow.holds Tryz.pinned (OpenSpec.ofChange mergeOneWrong)

/-- 'planispherelaw26.MergeObjects': WHATEVER THE INPUT: true; the input reads as it did. -/
def mergeObjectsSpec : ChangeSpec := { name := "mergeObjects", fn := fun _ => fun
  | [d1, d2, d3, d4] => { results := [.lit (.bool true)], args := [d1, d2, d3, d4] }
  | _ => none }
def mergeObjectsRow : OpenClaim := { program := "ytbfmdojdemckbaagreat", sum := "7fa747d141ec603e5165607f1b0c8dbab632adbf58d4fcf2fda529ec6ad140d4", func := "planisphere/planispherelaw26.MergeObjects", spec := "mergeObjects", inPlace := ["internal/bytealg.IndexByteString", "internal/bytealg.abigen_runtime_cmpstring", "slices.overlaps[planisphere/api.Tag]", "slices.overlaps[planisphere/api.Object]", "internal/abi.NoEscape", "internal/bytealg.MakeNoZero"], unfollowed := true, recurses := true, plainKeys := false, apart := false }
def MergeObjectsSaid : Prop := mergeObjectsRow.holds Tryz.pinned (OpenSpec.ofChange mergeObjectsSpec)

/-- ITS FALSE NEIGHBOUR: 'it returns false'. Refute it at one input. -/
def mergeObjectsWrong : ChangeSpec := { name := "mergeObjects", fn := fun _ => fun
  | [d1, d2, d3, d4] => { results := [.lit (.bool false)], args := [d1, d2, d3, d4] }
  | _ => none }
def MergeObjectsWrongFalsely : Prop := mergeObjectsRow.holds Tryz.pinned (OpenSpec.ofChange mergeObjectsWrong)

/-- 'planispherelaw26.MergeNeeds': WHATEVER THE INPUT: true; the input reads as it did. -/
def mergeNeedsSpec : ChangeSpec := { name := "mergeNeeds", fn := fun _ => fun
  | [d1, d2, d3] => { results := [.lit (.bool true)], args := [d1, d2, d3] }
  | _ => none }
def mergeNeedsRow : OpenClaim := { program := "ytbfmdojdemckbaagreat", sum := "7fa747d141ec603e5165607f1b0c8dbab632adbf58d4fcf2fda529ec6ad140d4", func := "planisphere/planispherelaw26.MergeNeeds", spec := "mergeNeeds", inPlace := ["internal/bytealg.IndexByteString", "internal/bytealg.abigen_runtime_cmpstring", "slices.overlaps[planisphere/api.Tag]", "slices.overlaps[planisphere/api.Object]", "internal/abi.NoEscape", "internal/bytealg.MakeNoZero"], unfollowed := true, recurses := true, plainKeys := false, apart := false }
def MergeNeedsSaid : Prop := mergeNeedsRow.holds Tryz.pinned (OpenSpec.ofChange mergeNeedsSpec)

/-- ITS FALSE NEIGHBOUR: 'it returns false'. Refute it at one input. -/
def mergeNeedsWrong : ChangeSpec := { name := "mergeNeeds", fn := fun _ => fun
  | [d1, d2, d3] => { results := [.lit (.bool false)], args := [d1, d2, d3] }
  | _ => none }
def MergeNeedsWrongFalsely : Prop := mergeNeedsRow.holds Tryz.pinned (OpenSpec.ofChange mergeNeedsWrong)

/- THE SECOND FORM. 'bulk': how many values and letters a reading holds, each counted each time it is reached (what is shared counts as often as it is met; a slice's spare places count too). A statement '..UptoSaid' is the law's where the arguments, and the package variables that the reading takes, are together of bulk at most 1048576: NARROWER than '..Said'. Prove '..Said' where nothing that the law and all that it calls make is longer than what came in: it says more and counts as full. Else prove '..UptoSaid'. A law counts once. -/
mutual
def uptoBulk {H : Type} : DataW H → Nat
  | .lit (.string bytes) => bytes.length + 1
  | .lit _ => 1
  | .nil => 1
  | .ptr d => uptoBulk d + 1
  | .slice elems spare => uptoBulkAll elems + uptoBulkAll spare + 1
  | .agg parts => uptoBulkAll parts + 1
  | .iface _ d => uptoBulk d + 1
  | .map entries => uptoBulkEntries entries + 1
  | .held _ => 1
def uptoBulkAll {H : Type} : List (DataW H) → Nat
  | [] => 0
  | d :: r => uptoBulk d + uptoBulkAll r
def uptoBulkEntries {H : Type} : List (Lit × DataW H) → Nat
  | [] => 0
  | x :: r => uptoBulkEntry x + uptoBulkEntries r
def uptoBulkEntry {H : Type} : Lit × DataW H → Nat
  | (.string bytes, d) => bytes.length + uptoBulk d + 1
  | (_, d) => uptoBulk d + 1
 end
def uptoSmall : (H : Type) → List (DataW H) → Bool := fun _ ds => decide (uptoBulkAll ds ≤ 1048576)
def OpenSpec.upto (s : _root_.Go.ChangeSpec) : _root_.Go.OpenSpec := { _root_.Go.OpenSpec.ofChange s with cond := some uptoSmall }

/-- 'planispherelaw26.MergeBoth', WHERE WHAT IT READS IS OF BULK AT MOST 1048576: true; the input reads as it did. -/
def mergeBothUptoRow : OpenClaim := { program := "ytbfmdojdemckbaagreat", sum := "7fa747d141ec603e5165607f1b0c8dbab632adbf58d4fcf2fda529ec6ad140d4", func := "planisphere/planispherelaw26.MergeBoth", spec := "mergeBoth", inPlace := ["internal/bytealg.IndexByteString", "internal/bytealg.abigen_runtime_cmpstring", "slices.overlaps[planisphere/api.Tag]", "slices.overlaps[planisphere/api.Object]", "internal/abi.NoEscape", "internal/bytealg.MakeNoZero"], unfollowed := true, recurses := true, plainKeys := false, apart := false, narrowed := true }
def MergeBothUptoSaid : Prop := mergeBothUptoRow.holds Tryz.pinned (OpenSpec.upto mergeBothSpec)

/-- 'planispherelaw26.MergeOne', WHERE WHAT IT READS IS OF BULK AT MOST 1048576: true; the input reads as it did. -/
def mergeOneUptoRow : OpenClaim := { program := "ytbfmdojdemckbaagreat", sum := "7fa747d141ec603e5165607f1b0c8dbab632adbf58d4fcf2fda529ec6ad140d4", func := "planisphere/planispherelaw26.MergeOne", spec := "mergeOne", inPlace := ["internal/bytealg.IndexByteString", "internal/bytealg.abigen_runtime_cmpstring", "slices.overlaps[planisphere/api.Tag]", "slices.overlaps[planisphere/api.Object]", "internal/abi.NoEscape", "internal/bytealg.MakeNoZero"], unfollowed := true, recurses := true, plainKeys := false, apart := false, narrowed := true }
def MergeOneUptoSaid : Prop := mergeOneUptoRow.holds Tryz.pinned (OpenSpec.upto mergeOneSpec)

/-- 'planispherelaw26.MergeObjects', WHERE WHAT IT READS IS OF BULK AT MOST 1048576: true; the input reads as it did. -/
def mergeObjectsUptoRow : OpenClaim := { program := "ytbfmdojdemckbaagreat", sum := "7fa747d141ec603e5165607f1b0c8dbab632adbf58d4fcf2fda529ec6ad140d4", func := "planisphere/planispherelaw26.MergeObjects", spec := "mergeObjects", inPlace := ["internal/bytealg.IndexByteString", "internal/bytealg.abigen_runtime_cmpstring", "slices.overlaps[planisphere/api.Tag]", "slices.overlaps[planisphere/api.Object]", "internal/abi.NoEscape", "internal/bytealg.MakeNoZero"], unfollowed := true, recurses := true, plainKeys := false, apart := false, narrowed := true }
def MergeObjectsUptoSaid : Prop := mergeObjectsUptoRow.holds Tryz.pinned (OpenSpec.upto mergeObjectsSpec)

/-- 'planispherelaw26.MergeNeeds', WHERE WHAT IT READS IS OF BULK AT MOST 1048576: true; the input reads as it did. -/
def mergeNeedsUptoRow : OpenClaim := { program := "ytbfmdojdemckbaagreat", sum := "7fa747d141ec603e5165607f1b0c8dbab632adbf58d4fcf2fda529ec6ad140d4", func := "planisphere/planispherelaw26.MergeNeeds", spec := "mergeNeeds", inPlace := ["internal/bytealg.IndexByteString", "internal/bytealg.abigen_runtime_cmpstring", "slices.overlaps[planisphere/api.Tag]", "slices.overlaps[planisphere/api.Object]", "internal/abi.NoEscape", "internal/bytealg.MakeNoZero"], unfollowed := true, recurses := true, plainKeys := false, apart := false, narrowed := true }
def MergeNeedsUptoSaid : Prop := mergeNeedsUptoRow.holds Tryz.pinned (OpenSpec.upto mergeNeedsSpec)

end Rows
end Go.Proofs.YtbfmdojdemckbaaGreat
