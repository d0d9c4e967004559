/- Lemmas for PartUnits. -/
import Derived.Test.YtnhmcokmdhgpbaaGreatRows
import Derived.ProofKit
set_option linter.all false
open Bool renaming true→O
namespace Go.Proofs.YtnhmcokmdhgpbaaGreat
def an7:laidOutB Tryz.pinned.checked.prog=O:=by kernel_rfl
def aob:(Tryz.pinned.checked.prog.stops== [])=O:=by kernel_rfl
def an6:(Tryz.pinned.checked.prog.stopKnobs== [])=O:=by kernel_rfl
