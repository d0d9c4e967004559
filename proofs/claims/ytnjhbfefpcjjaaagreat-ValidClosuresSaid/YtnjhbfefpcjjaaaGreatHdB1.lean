/- valid.Check at closed arguments, the second choice. -/
import Derived.Test.YtnjhbfefpcjjaaaGreatY7
/- valid.Check at two ways that cross: the choice 1. -/
namespace Go.Proofs.YtnjhbfefpcjjaaaGreat
open Go.Ag
theorem evB1 : evalD T7 1 3000 12 [crossM, worldV] = some (resB, 1) := by kernel_rfl
end Go.Proofs.YtnjhbfefpcjjaaaGreat
