/- Lemmas for ValidParts. -/
import Derived.Test.YtnnppcoplinajaaGreatRows
import Derived.ProofKit
set_option linter.all false
namespace Go.Proofs.YtnnppcoplinajaaGreat
def ajB:mapsRowed Tryz.pinned.checked.prog=true:=by kernel_rfl
def ajv:Tryz.pinned.checked.prog.stopsHeard=true:=by kernel_rfl
