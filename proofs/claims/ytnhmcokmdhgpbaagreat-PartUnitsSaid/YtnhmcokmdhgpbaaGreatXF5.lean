/- Lemmas for PartUnits. -/
import Derived.Test.YtnhmcokmdhgpbaaGreatRows
import Derived.ProofKit
set_option linter.all false
open Bool renaming true→O
namespace Go.Proofs.YtnhmcokmdhgpbaaGreat
def aoa:mapsRowed Tryz.pinned.checked.prog=O:=by kernel_rfl
def an4:Tryz.pinned.checked.prog.stopsHeard=O:=by kernel_rfl
