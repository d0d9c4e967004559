/- Lemmas for ValidApart. -/
import Derived.Test.YtnnppcoplinajaaGreatRows
import Derived.ProofKit
set_option linter.all false
namespace Go.Proofs.YtnnppcoplinajaaGreat
def ags:mapsRowed Tryz.pinned.checked.prog=true:=by kernel_rfl
def agm:Tryz.pinned.checked.prog.stopsHeard=true:=by kernel_rfl
