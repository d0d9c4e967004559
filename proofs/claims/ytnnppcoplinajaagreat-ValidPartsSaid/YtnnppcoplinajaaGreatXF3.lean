/- Lemmas for ValidParts. -/
import Derived.Test.YtnnppcoplinajaaGreatRows
import Derived.ProofKit
set_option linter.all false
namespace Go.Proofs.YtnnppcoplinajaaGreat
def ajz:Tryz.pinned.checked.prog.liftsFinal=Rows.validPartsRow.lifted:=by kernel_rfl
def ajw:Tryz.pinned.checked.prog.plainKeys=Rows.validPartsRow.plainKeys:=by kernel_rfl
