/- Lemmas for PartUnits. -/
import Derived.Test.YtnhmcokmdhgpbaaGreatRows
import Derived.ProofKit
set_option linter.all false
namespace Go.Proofs.YtnhmcokmdhgpbaaGreat
def an8:Tryz.pinned.checked.prog.liftsFinal=Rows.partUnitsRow.lifted:=by kernel_rfl
def an5:Tryz.pinned.checked.prog.plainKeys=Rows.partUnitsRow.plainKeys:=by kernel_rfl
