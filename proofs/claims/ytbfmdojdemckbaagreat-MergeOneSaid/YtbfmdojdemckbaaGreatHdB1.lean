/- The fourth merge of head(), some of the choices. -/
import Derived.Test.YtbfmdojdemckbaaGreatHd0
/- head(): the fourth merge -/
namespace Go.Proofs.YtbfmdojdemckbaaGreat
open Go.Ag
theorem m4_00200 : evalH HT [3, 2, 3, 2, 2] [0, 0, 2, 0, 0] 3000 9 a4 = some (r4, 5) := by kernel_rfl
theorem m4_00201 : evalH HT [3, 2, 3, 2, 2] [0, 0, 2, 0, 1] 3000 9 a4 = some (r4, 5) := by kernel_rfl
theorem m4_00210 : evalH HT [3, 2, 3, 2, 2] [0, 0, 2, 1, 0] 3000 9 a4 = some (r4, 5) := by kernel_rfl
theorem m4_00211 : evalH HT [3, 2, 3, 2, 2] [0, 0, 2, 1, 1] 3000 9 a4 = some (r4, 5) := by kernel_rfl
theorem m4_01000 : evalH HT [3, 2, 3, 2, 2] [0, 1, 0, 0, 0] 3000 9 a4 = some (r4, 5) := by kernel_rfl
theorem m4_01001 : evalH HT [3, 2, 3, 2, 2] [0, 1, 0, 0, 1] 3000 9 a4 = some (r4, 5) := by kernel_rfl
theorem m4_01010 : evalH HT [3, 2, 3, 2, 2] [0, 1, 0, 1, 0] 3000 9 a4 = some (r4, 5) := by kernel_rfl
theorem m4_01011 : evalH HT [3, 2, 3, 2, 2] [0, 1, 0, 1, 1] 3000 9 a4 = some (r4, 5) := by kernel_rfl
end Go.Proofs.YtbfmdojdemckbaaGreat
