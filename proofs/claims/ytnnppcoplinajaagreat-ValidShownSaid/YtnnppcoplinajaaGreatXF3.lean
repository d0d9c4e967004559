/- Lemmas for ValidShown. -/
import Derived.Test.YtnnppcoplinajaaGreatRows
import Derived.ProofKit
set_option linter.all false
namespace Go.Proofs.YtnnppcoplinajaaGreat
def ak1:Tryz.pinned.checked.prog.liftsFinal=Rows.validShownRow.lifted:=by kernel_rfl
def akY:Tryz.pinned.checked.prog.plainKeys=Rows.validShownRow.plainKeys:=by kernel_rfl
