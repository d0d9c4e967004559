/- Lemmas for PartUnits. -/
import Derived.Test.YtnhmcokmdhgpbaaGreatRows
import Derived.ProofKit
set_option linter.all false
open Option renaming some→X
namespace Go.Proofs.YtnhmcokmdhgpbaaGreat
def an9:Tryz.pinned.checked.prog.make=X Rows.partUnitsRow.make:=by kernel_rfl
