/- Closed facts. -/
import Derived.Test.YtnnppcoplinajaaGreatRows
import Derived.ProofKit
set_option linter.defProp false
namespace Go.Proofs.YtnnppcoplinajaaGreat
def acp:laidOutB Tryz.pinned.checked.prog=true:=by kernel_rfl
def act:(Tryz.pinned.checked.prog.stops== [])=true:=by kernel_rfl
def aco:(Tryz.pinned.checked.prog.stopKnobs== [])=true:=by kernel_rfl
