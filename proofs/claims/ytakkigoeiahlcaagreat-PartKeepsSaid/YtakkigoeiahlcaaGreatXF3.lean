/- Lemmas for PartKeeps. -/
import Derived.Test.YtakkigoeiahlcaaGreatRows
import Derived.ProofKit
set_option linter.all false
namespace Go.Proofs.YtakkigoeiahlcaaGreat
def anh:Tryz.pinned.checked.prog.liftsFinal=Rows.partKeepsRow.lifted:=by kernel_rfl
def ane:Tryz.pinned.checked.prog.plainKeys=Rows.partKeepsRow.plainKeys:=by kernel_rfl
