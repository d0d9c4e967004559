/- Lemmas for ValidApart. -/
import Derived.Test.YtnnppcoplinajaaGreatRows
import Derived.ProofKit
set_option linter.all false
namespace Go.Proofs.YtnnppcoplinajaaGreat
def agp:laidOutB Tryz.pinned.checked.prog=true:=by kernel_rfl
def agt:(Tryz.pinned.checked.prog.stops== [])=true:=by kernel_rfl
def ago:(Tryz.pinned.checked.prog.stopKnobs== [])=true:=by kernel_rfl
