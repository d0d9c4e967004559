/- Closed facts. -/
import Derived.Test.YtnnppcoplinajaaGreatRows
import Derived.ProofKit
set_option linter.defProp false
namespace Go.Proofs.YtnnppcoplinajaaGreat
def acs:mapsRowed Tryz.pinned.checked.prog=true:=by kernel_rfl
def acm:Tryz.pinned.checked.prog.stopsHeard=true:=by kernel_rfl
