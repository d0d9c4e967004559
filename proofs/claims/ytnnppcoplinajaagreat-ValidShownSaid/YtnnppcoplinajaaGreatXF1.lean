/- Lemmas for ValidShown. -/
import Derived.Test.YtnnppcoplinajaaGreatRows
import Derived.ProofKit
set_option linter.all false
namespace Go.Proofs.YtnnppcoplinajaaGreat
def akW:Tryz.pinned.checked.prog.mayEnter=true:=by kernel_rfl
