/- Closed facts. -/
import Derived.Test.YtnnppcoplinajaaGreatRows
import Derived.ProofKit
set_option linter.defProp false
namespace Go.Proofs.YtnnppcoplinajaaGreat
def acq:Tryz.pinned.checked.prog.liftsFinal=Rows.mergeMatchesReferenceRow.lifted:=by kernel_rfl
def acn:Tryz.pinned.checked.prog.plainKeys=Rows.mergeMatchesReferenceRow.plainKeys:=by kernel_rfl
