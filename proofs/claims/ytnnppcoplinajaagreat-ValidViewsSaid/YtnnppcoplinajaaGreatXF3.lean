/- Lemmas for ValidViews. -/
import Derived.Test.YtnnppcoplinajaaGreatRows
import Derived.ProofKit
set_option linter.all false
namespace Go.Proofs.YtnnppcoplinajaaGreat
def agq:Tryz.pinned.checked.prog.liftsFinal=Rows.validViewsRow.lifted:=by kernel_rfl
def agn:Tryz.pinned.checked.prog.plainKeys=Rows.validViewsRow.plainKeys:=by kernel_rfl
