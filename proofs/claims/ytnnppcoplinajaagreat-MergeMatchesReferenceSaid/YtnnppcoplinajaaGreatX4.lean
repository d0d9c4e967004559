/- Closed facts. -/
import Derived.Test.YtnnppcoplinajaaGreatRows
import Derived.ProofKit
set_option linter.defProp false
namespace Go.Proofs.YtnnppcoplinajaaGreat
def acr:Tryz.pinned.checked.prog.make=some Rows.mergeMatchesReferenceRow.make:=by kernel_rfl
