/- Lemmas for ValidViews. -/
import Derived.Test.YtnnppcoplinajaaGreatRows
import Derived.ProofKit
set_option linter.all false
namespace Go.Proofs.YtnnppcoplinajaaGreat
def agr:Tryz.pinned.checked.prog.make=some Rows.validViewsRow.make:=by kernel_rfl
