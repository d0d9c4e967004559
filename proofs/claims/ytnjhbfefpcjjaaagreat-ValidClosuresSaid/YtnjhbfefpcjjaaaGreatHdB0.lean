/- valid.Check at closed arguments, the first choice. -/
import Derived.Test.YtnjhbfefpcjjaaaGreatY7
/- valid.Check at two ways that cross: the choice 0. -/
namespace Go.Proofs.YtnjhbfefpcjjaaaGreat
open Go.Ag
theorem evB0 : evalD T7 0 3000 12 [crossM, worldV] = some (resB, 1) := by kernel_rfl
end Go.Proofs.YtnjhbfefpcjjaaaGreat
