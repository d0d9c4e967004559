/- valid.Check at closed arguments. -/
import Derived.Test.YtnjhbfefpcjjaaaGreatY7
/- valid.Check at the closed arguments: without choices. -/
namespace Go.Proofs.YtnjhbfefpcjjaaaGreat
open Go.Ag
theorem evA : evalC T7 3000 12 [lostM, world0] = some (resA, 0) := by kernel_rfl
theorem evE : evalC T7 3000 12 [lostM, worldV] = some (resE, 0) := by kernel_rfl
theorem evD : evalC T7 3000 12 [.agg [.nils], worldV] = some (.nils, 0) := by kernel_rfl
end Go.Proofs.YtnjhbfefpcjjaaaGreat
