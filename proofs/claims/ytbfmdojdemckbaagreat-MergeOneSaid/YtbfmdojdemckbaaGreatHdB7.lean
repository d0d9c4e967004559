/- The fourth merge of head(), some of the choices. -/
import Derived.Test.YtbfmdojdemckbaaGreatHd0
/- head(): the fourth merge -/
namespace Go.Proofs.YtbfmdojdemckbaaGreat
open Go.Ag
theorem m4_20200 : evalH HT [3, 2, 3, 2, 2] [2, 0, 2, 0, 0] 3000 9 a4 = some (r4, 5) := by kernel_rfl
theorem m4_20201 : evalH HT [3, 2, 3, 2, 2] [2, 0, 2, 0, 1] 3000 9 a4 = some (r4, 5) := by kernel_rfl
theorem m4_20210 : evalH HT [3, 2, 3, 2, 2] [2, 0, 2, 1, 0] 3000 9 a4 = some (r4, 5) := by kernel_rfl
theorem m4_20211 : evalH HT [3, 2, 3, 2, 2] [2, 0, 2, 1, 1] 3000 9 a4 = some (r4, 5) := by kernel_rfl
theorem m4_21000 : evalH HT [3, 2, 3, 2, 2] [2, 1, 0, 0, 0] 3000 9 a4 = some (r4, 5) := by kernel_rfl
theorem m4_21001 : evalH HT [3, 2, 3, 2, 2] [2, 1, 0, 0, 1] 3000 9 a4 = some (r4, 5) := by kernel_rfl
theorem m4_21010 : evalH HT [3, 2, 3, 2, 2] [2, 1, 0, 1, 0] 3000 9 a4 = some (r4, 5) := by kernel_rfl
theorem m4_21011 : evalH HT [3, 2, 3, 2, 2] [2, 1, 0, 1, 1] 3000 9 a4 = some (r4, 5) := by kernel_rfl
end Go.Proofs.YtbfmdojdemckbaaGreat
