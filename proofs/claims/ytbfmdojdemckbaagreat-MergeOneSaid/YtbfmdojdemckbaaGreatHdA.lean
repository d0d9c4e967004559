/- The first three merges of head(). -/
import Derived.Test.YtbfmdojdemckbaaGreatHd0
/- head(): the first three merges -/
namespace Go.Proofs.YtbfmdojdemckbaaGreat
open Go.Ag
theorem m1 : evalH HT [] [] 3000 9 a1 = some (r1, 0) := by kernel_rfl
theorem m2 : evalH HT [] [] 3000 9 a2 = some (r2, 0) := by kernel_rfl
theorem m3 : evalH HT [] [] 3000 9 a3 = some (r3, 0) := by kernel_rfl
end Go.Proofs.YtbfmdojdemckbaaGreat
