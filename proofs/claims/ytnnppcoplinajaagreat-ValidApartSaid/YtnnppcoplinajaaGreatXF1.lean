/- Lemmas for ValidApart. -/
import Derived.Test.YtnnppcoplinajaaGreatRows
import Derived.ProofKit
set_option linter.all false
namespace Go.Proofs.YtnnppcoplinajaaGreat
def agl:Tryz.pinned.checked.prog.mayEnter=true:=by kernel_rfl
