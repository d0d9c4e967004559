/- Lemmas for PartKeeps. -/
import Derived.Test.YtakkigoeiahlcaaGreatRows
import Derived.ProofKit
set_option linter.all false
open Bool renaming true→O
namespace Go.Proofs.YtakkigoeiahlcaaGreat
def anj:mapsRowed Tryz.pinned.checked.prog=O:=by kernel_rfl
def anc:Tryz.pinned.checked.prog.stopsHeard=O:=by kernel_rfl
