/- Lemmas for ValidShown. -/
import Derived.Test.YtnnppcoplinajaaGreatRows
import Derived.ProofKit
set_option linter.all false
namespace Go.Proofs.YtnnppcoplinajaaGreat
def ak3:mapsRowed Tryz.pinned.checked.prog=true:=by kernel_rfl
def akX:Tryz.pinned.checked.prog.stopsHeard=true:=by kernel_rfl
