/- Lemmas for PartKeeps. -/
import Derived.Test.YtakkigoeiahlcaaGreatRows
import Derived.ProofKit
set_option linter.all false
open Bool renaming true→O
namespace Go.Proofs.YtakkigoeiahlcaaGreat
def ang:laidOutB Tryz.pinned.checked.prog=O:=by kernel_rfl
def ank:(Tryz.pinned.checked.prog.stops== [])=O:=by kernel_rfl
def anf:(Tryz.pinned.checked.prog.stopKnobs== [])=O:=by kernel_rfl
