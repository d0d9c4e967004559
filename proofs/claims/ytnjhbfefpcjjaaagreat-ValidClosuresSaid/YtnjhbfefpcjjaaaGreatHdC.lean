/- valid.Check at closed arguments, with a rule. -/
import Derived.Test.YtnjhbfefpcjjaaaGreatY7
/- valid.Check at two ways that cross, with a rule. -/
namespace Go.Proofs.YtnjhbfefpcjjaaaGreat
open Go.Ag
theorem evC : evalC T7 3000 12 [crossM, worldR] = some (resC, 0) := by kernel_rfl
end Go.Proofs.YtnjhbfefpcjjaaaGreat
