/- The fourth merge of head(), some of the choices. -/
import Derived.Test.YtbfmdojdemckbaaGreatHd0
/- head(): the fourth merge -/
namespace Go.Proofs.YtbfmdojdemckbaaGreat
open Go.Ag
theorem m4_11100 : evalH HT [3, 2, 3, 2, 2] [1, 1, 1, 0, 0] 3000 9 a4 = some (r4, 5) := by kernel_rfl
theorem m4_11101 : evalH HT [3, 2, 3, 2, 2] [1, 1, 1, 0, 1] 3000 9 a4 = some (r4, 5) := by kernel_rfl
theorem m4_11110 : evalH HT [3, 2, 3, 2, 2] [1, 1, 1, 1, 0] 3000 9 a4 = some (r4, 5) := by kernel_rfl
theorem m4_11111 : evalH HT [3, 2, 3, 2, 2] [1, 1, 1, 1, 1] 3000 9 a4 = some (r4, 5) := by kernel_rfl
theorem m4_11200 : evalH HT [3, 2, 3, 2, 2] [1, 1, 2, 0, 0] 3000 9 a4 = some (r4, 5) := by kernel_rfl
theorem m4_11201 : evalH HT [3, 2, 3, 2, 2] [1, 1, 2, 0, 1] 3000 9 a4 = some (r4, 5) := by kernel_rfl
theorem m4_11210 : evalH HT [3, 2, 3, 2, 2] [1, 1, 2, 1, 0] 3000 9 a4 = some (r4, 5) := by kernel_rfl
theorem m4_11211 : evalH HT [3, 2, 3, 2, 2] [1, 1, 2, 1, 1] 3000 9 a4 = some (r4, 5) := by kernel_rfl
end Go.Proofs.YtbfmdojdemckbaaGreat
