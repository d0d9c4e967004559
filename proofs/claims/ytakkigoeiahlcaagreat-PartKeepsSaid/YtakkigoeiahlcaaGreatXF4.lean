/- Lemmas for PartKeeps. -/
import Derived.Test.YtakkigoeiahlcaaGreatRows
import Derived.ProofKit
set_option linter.all false
open Option renaming some→X
namespace Go.Proofs.YtakkigoeiahlcaaGreat
def ani:Tryz.pinned.checked.prog.make=X Rows.partKeepsRow.make:=by kernel_rfl
