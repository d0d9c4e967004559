/- Lemmas for ValidParts. -/
import Derived.Test.YtnnppcoplinajaaGreatRows
import Derived.ProofKit
set_option linter.all false
namespace Go.Proofs.YtnnppcoplinajaaGreat
def ajA:Tryz.pinned.checked.prog.make=some Rows.validPartsRow.make:=by kernel_rfl
