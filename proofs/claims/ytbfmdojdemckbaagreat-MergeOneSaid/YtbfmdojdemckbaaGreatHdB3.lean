/- The fourth merge of head(), some of the choices. -/
import Derived.Test.YtbfmdojdemckbaaGreatHd0
/- head(): the fourth merge -/
namespace Go.Proofs.YtbfmdojdemckbaaGreat
open Go.Ag
theorem m4_10000 : evalH HT [3, 2, 3, 2, 2] [1, 0, 0, 0, 0] 3000 9 a4 = some (r4, 5) := by kernel_rfl
theorem m4_10001 : evalH HT [3, 2, 3, 2, 2] [1, 0, 0, 0, 1] 3000 9 a4 = some (r4, 5) := by kernel_rfl
theorem m4_10010 : evalH HT [3, 2, 3, 2, 2] [1, 0, 0, 1, 0] 3000 9 a4 = some (r4, 5) := by kernel_rfl
theorem m4_10011 : evalH HT [3, 2, 3, 2, 2] [1, 0, 0, 1, 1] 3000 9 a4 = some (r4, 5) := by kernel_rfl
theorem m4_10100 : evalH HT [3, 2, 3, 2, 2] [1, 0, 1, 0, 0] 3000 9 a4 = some (r4, 5) := by kernel_rfl
theorem m4_10101 : evalH HT [3, 2, 3, 2, 2] [1, 0, 1, 0, 1] 3000 9 a4 = some (r4, 5) := by kernel_rfl
theorem m4_10110 : evalH HT [3, 2, 3, 2, 2] [1, 0, 1, 1, 0] 3000 9 a4 = some (r4, 5) := by kernel_rfl
theorem m4_10111 : evalH HT [3, 2, 3, 2, 2] [1, 0, 1, 1, 1] 3000 9 a4 = some (r4, 5) := by kernel_rfl
end Go.Proofs.YtbfmdojdemckbaaGreat
