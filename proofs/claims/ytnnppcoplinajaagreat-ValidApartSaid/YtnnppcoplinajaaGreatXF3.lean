/- Lemmas for ValidApart. -/
import Derived.Test.YtnnppcoplinajaaGreatRows
import Derived.ProofKit
set_option linter.all false
namespace Go.Proofs.YtnnppcoplinajaaGreat
def agq:Tryz.pinned.checked.prog.liftsFinal=Rows.validApartRow.lifted:=by kernel_rfl
def agn:Tryz.pinned.checked.prog.plainKeys=Rows.validApartRow.plainKeys:=by kernel_rfl
