/- The fourth merge of head(), some of the choices. -/
import Derived.Test.YtbfmdojdemckbaaGreatHd0
/- head(): the fourth merge -/
namespace Go.Proofs.YtbfmdojdemckbaaGreat
open Go.Ag
theorem m4_00000 : evalH HT [3, 2, 3, 2, 2] [0, 0, 0, 0, 0] 3000 9 a4 = some (r4, 5) := by kernel_rfl
theorem m4_00001 : evalH HT [3, 2, 3, 2, 2] [0, 0, 0, 0, 1] 3000 9 a4 = some (r4, 5) := by kernel_rfl
theorem m4_00010 : evalH HT [3, 2, 3, 2, 2] [0, 0, 0, 1, 0] 3000 9 a4 = some (r4, 5) := by kernel_rfl
theorem m4_00011 : evalH HT [3, 2, 3, 2, 2] [0, 0, 0, 1, 1] 3000 9 a4 = some (r4, 5) := by kernel_rfl
theorem m4_00100 : evalH HT [3, 2, 3, 2, 2] [0, 0, 1, 0, 0] 3000 9 a4 = some (r4, 5) := by kernel_rfl
theorem m4_00101 : evalH HT [3, 2, 3, 2, 2] [0, 0, 1, 0, 1] 3000 9 a4 = some (r4, 5) := by kernel_rfl
theorem m4_00110 : evalH HT [3, 2, 3, 2, 2] [0, 0, 1, 1, 0] 3000 9 a4 = some (r4, 5) := by kernel_rfl
theorem m4_00111 : evalH HT [3, 2, 3, 2, 2] [0, 0, 1, 1, 1] 3000 9 a4 = some (r4, 5) := by kernel_rfl
end Go.Proofs.YtbfmdojdemckbaaGreat
