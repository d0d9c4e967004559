/- Lemmas for ValidApart. -/
import Derived.Test.YtnnppcoplinajaaGreatRows
import Derived.ProofKit
set_option linter.all false
namespace Go.Proofs.YtnnppcoplinajaaGreat
def agr:Tryz.pinned.checked.prog.make=some Rows.validApartRow.make:=by kernel_rfl
