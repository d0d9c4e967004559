/- Lemmas for ValidShown. -/
import Derived.Test.YtnnppcoplinajaaGreatRows
import Derived.ProofKit
set_option linter.all false
namespace Go.Proofs.YtnnppcoplinajaaGreat
def ak0:laidOutB Tryz.pinned.checked.prog=true:=by kernel_rfl
def ak4:(Tryz.pinned.checked.prog.stops== [])=true:=by kernel_rfl
def akZ:(Tryz.pinned.checked.prog.stopKnobs== [])=true:=by kernel_rfl
