/- Lemmas for PartUnits. -/
import Derived.Test.YtnhmcokmdhgpbaaGreatRows
import Derived.ProofKit
set_option linter.all false
open Bool renaming true→O
namespace Go.Proofs.YtnhmcokmdhgpbaaGreat
def an3:Tryz.pinned.checked.prog.mayEnter=O:=by kernel_rfl
