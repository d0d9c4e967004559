/- Lemmas for PartKeeps. -/
import Derived.Test.YtakkigoeiahlcaaGreatRows
import Derived.ProofKit
set_option linter.all false
open Bool renaming true→O
namespace Go.Proofs.YtakkigoeiahlcaaGreat
def anb:Tryz.pinned.checked.prog.mayEnter=O:=by kernel_rfl
