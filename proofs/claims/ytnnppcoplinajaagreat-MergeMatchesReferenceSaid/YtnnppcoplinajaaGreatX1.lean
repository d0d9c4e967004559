/- Closed facts. -/
import Derived.Test.YtnnppcoplinajaaGreatRows
import Derived.ProofKit
set_option linter.defProp false
namespace Go.Proofs.YtnnppcoplinajaaGreat
def acl:Tryz.pinned.checked.prog.mayEnter=true:=by kernel_rfl
