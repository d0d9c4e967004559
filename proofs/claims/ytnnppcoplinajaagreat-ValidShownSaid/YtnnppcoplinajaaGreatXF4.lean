/- Lemmas for ValidShown. -/
import Derived.Test.YtnnppcoplinajaaGreatRows
import Derived.ProofKit
set_option linter.all false
namespace Go.Proofs.YtnnppcoplinajaaGreat
def ak2:Tryz.pinned.checked.prog.make=some Rows.validShownRow.make:=by kernel_rfl
