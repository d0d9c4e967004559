/- Lemmas for ValidParts. -/
import Derived.Test.YtnnppcoplinajaaGreatRows
import Derived.ProofKit
set_option linter.all false
namespace Go.Proofs.YtnnppcoplinajaaGreat
def ajy:laidOutB Tryz.pinned.checked.prog=true:=by kernel_rfl
def ajC:(Tryz.pinned.checked.prog.stops== [])=true:=by kernel_rfl
def ajx:(Tryz.pinned.checked.prog.stopKnobs== [])=true:=by kernel_rfl
