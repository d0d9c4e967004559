/-
  No cell of these rows narrows 'for every input' (looked for: loops, veiled, ifaces, maps, wideKeys, modest, calm, conditions, laid).
  DERIVED. THE GIVEN ROWS OF THIS SEAT. 6 by the template 'for every input the law returns true; each argument reads behind the call as it read before'; 0 by the template 'total and deterministic' (their statements: YtnjhbfefpcjjaaaGreatTotals.lean).
  GIVEN WITH THE SEED: the statements are not yours to turn. If you find one false, say at which input.
  Laid BY PROGRAM, IN A SANDBOX (cutbox-rows.mjs): the forced cells as the released guide's own fill.sh prints them over the translation 1731893117a87e99… (all of the seat's roots in one cut). By AI agents, Wed Nov 11 2026. No macro, syntax, notation, axiom, sorry.
-/
import Derived.Test.YtnjhbfefpcjjaaaGreatChecked
import GoSem.Claim
import GoSem.ClaimJoined
import GoSem.ClaimMapViews
import Derived.JoinedTies
import Derived.KernelRfl
namespace Go.Proofs.YtnjhbfefpcjjaaaGreat
/- THE CELL 'sum', in the pinned program and in every row, IS THE sha256 OF THE DUMP (.gsa) THAT YtnjhbfefpcjjaaaGreatProg.lean LOADS. Nothing in Lean hashes anything: it is a label: what it is worth is what the hold of that sum in a sandbox is worth. -/
noncomputable def Tryz.pinned : Pinned := { name := "ytnjhbfefpcjjaaagreat", sum := "1731893117a87e99c0adbdc5ad84a3e3bba95514b12f5c02417a59ab74145c6e", checked := Tryz.checked }
namespace Rows
def none {H : Type} : Left H := { results := [], args := [] }

/-- 'planispherelaw20.ValidMatchesReference': WHATEVER THE INPUT: true; the input reads as it did. -/
def validMatchesReferenceSpec : ChangeSpec := { name := "validMatchesReference", fn := fun _ => fun
  | [d1, d2, d3, d4] => { results := [.lit (.bool true)], args := [d1, d2, d3, d4] }
  | _ => none }
def validMatchesReferenceRow : OpenClaim := { program := "ytnjhbfefpcjjaaagreat", sum := "1731893117a87e99c0adbdc5ad84a3e3bba95514b12f5c02417a59ab74145c6e", func := "planisphere/planispherelaw20.ValidMatchesReference", spec := "validMatchesReference", inPlace := ["internal/bytealg.IndexByteString"], unfollowed := true, recurses := true, plainKeys := false, apart := false }
def ValidMatchesReferenceSaid : Prop := validMatchesReferenceRow.holds Tryz.pinned (OpenSpec.ofChange validMatchesReferenceSpec)

/-- ITS FALSE NEIGHBOUR: 'it returns false'. Refute it at one input. -/
def validMatchesReferenceWrong : ChangeSpec := { name := "validMatchesReference", fn := fun _ => fun
  | [d1, d2, d3, d4] => { results := [.lit (.bool false)], args := [d1, d2, d3, d4] }
  | _ => none }
def ValidMatchesReferenceWrongFalsely : Prop := validMatchesReferenceRow.holds Tryz.pinned (OpenSpec.ofChange validMatchesReferenceWrong)

/-- 'planispherelaw20.ValidParts': WHATEVER THE INPUT: true; the input reads as it did. -/
def validPartsSpec : ChangeSpec := { name := "validParts", fn := fun _ => fun
  | [d1, d2, d3] => { results := [.lit (.bool true)], args := [d1, d2, d3] }
  | _ => none }
def validPartsRow : OpenClaim := { program := "ytnjhbfefpcjjaaagreat", sum := "1731893117a87e99c0adbdc5ad84a3e3bba95514b12f5c02417a59ab74145c6e", func := "planisphere/planispherelaw20.ValidParts", spec := "validParts", inPlace := ["internal/bytealg.IndexByteString"], unfollowed := true, recurses := true, plainKeys := false, apart := false }
def ValidPartsSaid : Prop := validPartsRow.holds Tryz.pinned (OpenSpec.ofChange validPartsSpec)

/-- ITS FALSE NEIGHBOUR: 'it returns false'. Refute it at one input. -/
def validPartsWrong : ChangeSpec := { name := "validParts", fn := fun _ => fun
  | [d1, d2, d3] => { results := [.lit (.bool false)], args := [d1, d2, d3] }
  | _ => none }
def ValidPartsWrongFalsely : Prop := validPartsRow.holds Tryz.pinned (OpenSpec.ofChange validPartsWrong)

/-- 'planispherelaw20.ValidClosures': WHATEVER THE INPUT: true; the input reads as it did. -/
def validClosuresSpec : ChangeSpec := { name := "validClosures", fn := fun _ => fun
  | [d1, d2] => { results := [.lit (.bool true)], args := [d1, d2] }
  | _ => none }
def validClosuresRow : OpenClaim := { program := "ytnjhbfefpcjjaaagreat", sum := "1731893117a87e99c0adbdc5ad84a3e3bba95514b12f5c02417a59ab74145c6e", func := "planisphere/planispherelaw20.ValidClosures", spec := "validClosures", inPlace := ["internal/bytealg.IndexByteString"], unfollowed := true, recurses := true, plainKeys := false, apart := false }
def ValidClosuresSaid : Prop := validClosuresRow.holds Tryz.pinned (OpenSpec.ofChange validClosuresSpec)

/-- ITS FALSE NEIGHBOUR: 'it returns false'. Refute it at one input. -/
def validClosuresWrong : ChangeSpec := { name := "validClosures", fn := fun _ => fun
  | [d1, d2] => { results := [.lit (.bool false)], args := [d1, d2] }
  | _ => none }
def ValidClosuresWrongFalsely : Prop := validClosuresRow.holds Tryz.pinned (OpenSpec.ofChange validClosuresWrong)

/-- 'planispherelaw20.ValidViews': WHATEVER THE INPUT: true; the input reads as it did. -/
def validViewsSpec : ChangeSpec := { name := "validViews", fn := fun _ => fun
  | [d1, d2] => { results := [.lit (.bool true)], args := [d1, d2] }
  | _ => none }
def validViewsRow : OpenClaim := { program := "ytnjhbfefpcjjaaagreat", sum := "1731893117a87e99c0adbdc5ad84a3e3bba95514b12f5c02417a59ab74145c6e", func := "planisphere/planispherelaw20.ValidViews", spec := "validViews", inPlace := ["internal/bytealg.IndexByteString"], unfollowed := true, recurses := true, plainKeys := false, apart := false }
def ValidViewsSaid : Prop := validViewsRow.holds Tryz.pinned (OpenSpec.ofChange validViewsSpec)

/-- ITS FALSE NEIGHBOUR: 'it returns false'. Refute it at one input. -/
def validViewsWrong : ChangeSpec := { name := "validViews", fn := fun _ => fun
  | [d1, d2] => { results := [.lit (.bool false)], args := [d1, d2] }
  | _ => none }
def ValidViewsWrongFalsely : Prop := validViewsRow.holds Tryz.pinned (OpenSpec.ofChange validViewsWrong)

/-- 'planispherelaw20.ValidShown': WHATEVER THE INPUT: true; the input reads as it did. -/
def validShownSpec : ChangeSpec := { name := "validShown", fn := fun _ => fun
  | [d1, d2] => { results := [.lit (.bool true)], args := [d1, d2] }
  | _ => none }
def validShownRow : OpenClaim := { program := "ytnjhbfefpcjjaaagreat", sum := "1731893117a87e99c0adbdc5ad84a3e3bba95514b12f5c02417a59ab74145c6e", func := "planisphere/planispherelaw20.ValidShown", spec := "validShown", inPlace := ["internal/bytealg.IndexByteString"], unfollowed := true, recurses := true, plainKeys := false, apart := false }
def ValidShownSaid : Prop := validShownRow.holds Tryz.pinned (OpenSpec.ofChange validShownSpec)

/-- ITS FALSE NEIGHBOUR: 'it returns false'. Refute it at one input. -/
def validShownWrong : ChangeSpec := { name := "validShown", fn := fun _ => fun
  | [d1, d2] => { results := [.lit (.bool false)], args := [d1, d2] }
  | _ => none }
def ValidShownWrongFalsely : Prop := validShownRow.holds Tryz.pinned (OpenSpec.ofChange validShownWrong)

/-- 'planispherelaw20.ValidApart': WHATEVER THE INPUT: true; the input reads as it did. -/
def validApartSpec : ChangeSpec := { name := "validApart", fn := fun _ => fun
  | [d1, d2, d3] => { results := [.lit (.bool true)], args := [d1, d2, d3] }
  | _ => none }
def validApartRow : OpenClaim := { program := "ytnjhbfefpcjjaaagreat", sum := "1731893117a87e99c0adbdc5ad84a3e3bba95514b12f5c02417a59ab74145c6e", func := "planisphere/planispherelaw20.ValidApart", spec := "validApart", inPlace := ["internal/bytealg.IndexByteString", "internal/bytealg.abigen_runtime_cmpstring", "slices.overlaps[planisphere/api.Object]"], unfollowed := true, recurses := true, plainKeys := false, apart := false }
def ValidApartSaid : Prop := validApartRow.holds Tryz.pinned (OpenSpec.ofChange validApartSpec)

/-- ITS FALSE NEIGHBOUR: 'it returns false'. Refute it at one input. -/
def validApartWrong : ChangeSpec := { name := "validApart", fn := fun _ => fun
  | [d1, d2, d3] => { results := [.lit (.bool false)], args := [d1, d2, d3] }
  | _ => none }
def ValidApartWrongFalsely : Prop := validApartRow.holds Tryz.pinned (OpenSpec.ofChange validApartWrong)

/- THE SECOND FORM. 'bulk': how many values and letters a reading holds, each counted each time it is reached (what is shared counts as often as it is met; a slice's spare places count too). A statement '..UptoSaid' is the law's where the arguments, and the package variables that the reading takes, are together of bulk at most 1048576: NARROWER than '..Said'. Prove '..Said' where nothing that the law and all that it calls make is longer than what came in: it says more and counts as full. Else prove '..UptoSaid'. A law counts once. -/
mutual
def uptoBulk {H : Type} : DataW H → Nat
  | .lit (.string bytes) => bytes.length + 1
  | .lit _ => 1
  | .nil => 1
  | .ptr d => uptoBulk d + 1
  | .slice elems spare => uptoBulkAll elems + uptoBulkAll spare + 1
  | .agg parts => uptoBulkAll parts + 1
  | .iface _ d => uptoBulk d + 1
  | .map entries => uptoBulkEntries entries + 1
  | .held _ => 1
def uptoBulkAll {H : Type} : List (DataW H) → Nat
  | [] => 0
  | d :: r => uptoBulk d + uptoBulkAll r
def uptoBulkEntries {H : Type} : List (Lit × DataW H) → Nat
  | [] => 0
  | x :: r => uptoBulkEntry x + uptoBulkEntries r
def uptoBulkEntry {H : Type} : Lit × DataW H → Nat
  | (.string bytes, d) => bytes.length + uptoBulk d + 1
  | (_, d) => uptoBulk d + 1
 end
def uptoSmall : (H : Type) → List (DataW H) → Bool := fun _ ds => decide (uptoBulkAll ds ≤ 1048576)
def OpenSpec.upto (s : _root_.Go.ChangeSpec) : _root_.Go.OpenSpec := { _root_.Go.OpenSpec.ofChange s with cond := some uptoSmall }

/-- 'planispherelaw20.ValidMatchesReference', WHERE WHAT IT READS IS OF BULK AT MOST 1048576: true; the input reads as it did. -/
def validMatchesReferenceUptoRow : OpenClaim := { program := "ytnjhbfefpcjjaaagreat", sum := "1731893117a87e99c0adbdc5ad84a3e3bba95514b12f5c02417a59ab74145c6e", func := "planisphere/planispherelaw20.ValidMatchesReference", spec := "validMatchesReference", inPlace := ["internal/bytealg.IndexByteString"], unfollowed := true, recurses := true, plainKeys := false, apart := false, narrowed := true }
def ValidMatchesReferenceUptoSaid : Prop := validMatchesReferenceUptoRow.holds Tryz.pinned (OpenSpec.upto validMatchesReferenceSpec)

/-- 'planispherelaw20.ValidParts', WHERE WHAT IT READS IS OF BULK AT MOST 1048576: true; the input reads as it did. -/
def validPartsUptoRow : OpenClaim := { program := "ytnjhbfefpcjjaaagreat", sum := "1731893117a87e99c0adbdc5ad84a3e3bba95514b12f5c02417a59ab74145c6e", func := "planisphere/planispherelaw20.ValidParts", spec := "validParts", inPlace := ["internal/bytealg.IndexByteString"], unfollowed := true, recurses := true, plainKeys := false, apart := false, narrowed := true }
def ValidPartsUptoSaid : Prop := validPartsUptoRow.holds Tryz.pinned (OpenSpec.upto validPartsSpec)

/-- 'planispherelaw20.ValidClosures', WHERE WHAT IT READS IS OF BULK AT MOST 1048576: true; the input reads as it did. -/
def validClosuresUptoRow : OpenClaim := { program := "ytnjhbfefpcjjaaagreat", sum := "1731893117a87e99c0adbdc5ad84a3e3bba95514b12f5c02417a59ab74145c6e", func := "planisphere/planispherelaw20.ValidClosures", spec := "validClosures", inPlace := ["internal/bytealg.IndexByteString"], unfollowed := true, recurses := true, plainKeys := false, apart := false, narrowed := true }
def ValidClosuresUptoSaid : Prop := validClosuresUptoRow.holds Tryz.pinned (OpenSpec.upto validClosuresSpec)

/-- 'planispherelaw20.ValidViews', WHERE WHAT IT READS IS OF BULK AT MOST 1048576: true; the input reads as it did. -/
def validViewsUptoRow : OpenClaim := { program := "ytnjhbfefpcjjaaagreat", sum := "1731893117a87e99c0adbdc5ad84a3e3bba95514b12f5c02417a59ab74145c6e", func := "planisphere/planispherelaw20.ValidViews", spec := "validViews", inPlace := ["internal/bytealg.IndexByteString"], unfollowed := true, recurses := true, plainKeys := false, apart := false, narrowed := true }
def ValidViewsUptoSaid : Prop := validViewsUptoRow.holds Tryz.pinned (OpenSpec.upto validViewsSpec)

/-- 'planispherelaw20.ValidShown', WHERE WHAT IT READS IS OF BULK AT MOST 1048576: true; the input reads as it did. -/
def validShownUptoRow : OpenClaim := { program := "ytnjhbfefpcjjaaagreat", sum := "1731893117a87e99c0adbdc5ad84a3e3bba95514b12f5c02417a59ab74145c6e", func := "planisphere/planispherelaw20.ValidShown", spec := "validShown", inPlace := ["internal/bytealg.IndexByteString"], unfollowed := true, recurses := true, plainKeys := false, apart := false, narrowed := true }
def ValidShownUptoSaid : Prop := validShownUptoRow.holds Tryz.pinned (OpenSpec.upto validShownSpec)

/-- 'planispherelaw20.ValidApart', WHERE WHAT IT READS IS OF BULK AT MOST 1048576: true; the input reads as it did. -/
def validApartUptoRow : OpenClaim := { program := "ytnjhbfefpcjjaaagreat", sum := "1731893117a87e99c0adbdc5ad84a3e3bba95514b12f5c02417a59ab74145c6e", func := "planisphere/planispherelaw20.ValidApart", spec := "validApart", inPlace := ["internal/bytealg.IndexByteString", "internal/bytealg.abigen_runtime_cmpstring", "slices.overlaps[planisphere/api.Object]"], unfollowed := true, recurses := true, plainKeys := false, apart := false, narrowed := true }
def ValidApartUptoSaid : Prop := validApartUptoRow.holds Tryz.pinned (OpenSpec.upto validApartSpec)

end Rows
end Go.Proofs.YtnjhbfefpcjjaaaGreat
