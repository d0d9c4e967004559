/- The fourth merge of head(), whatever is chosen. -/
import Derived.Test.YtbfmdojdemckbaaGreatHdB0
import Derived.Test.YtbfmdojdemckbaaGreatHdB1
import Derived.Test.YtbfmdojdemckbaaGreatHdB2
import Derived.Test.YtbfmdojdemckbaaGreatHdB3
import Derived.Test.YtbfmdojdemckbaaGreatHdB4
import Derived.Test.YtbfmdojdemckbaaGreatHdB5
import Derived.Test.YtbfmdojdemckbaaGreatHdB6
import Derived.Test.YtbfmdojdemckbaaGreatHdB7
import Derived.Test.YtbfmdojdemckbaaGreatHdB8
/- head(): the fourth merge, whatever is chosen -/
namespace Go.Proofs.YtbfmdojdemckbaaGreat
open Go.Ag
theorem m4 (c : List Nat) (h : Within [3, 2, 3, 2, 2] c) : evalH HT [3, 2, 3, 2, 2] c 3000 9 a4 = some (r4, 5) := by
  rcases h with _ | ⟨h0, h⟩
  rcases h with _ | ⟨h1, h⟩
  rcases h with _ | ⟨h2, h⟩
  rcases h with _ | ⟨h3, h⟩
  rcases h with _ | ⟨h4, h⟩
  cases h
  rename_i c0 c1 c2 c3 c4
  obtain rfl | rfl | rfl : c0 = 0 ∨ c0 = 1 ∨ c0 = 2 := by omega
  · obtain rfl | rfl : c1 = 0 ∨ c1 = 1 := by omega
    · obtain rfl | rfl | rfl : c2 = 0 ∨ c2 = 1 ∨ c2 = 2 := by omega
      · obtain rfl | rfl : c3 = 0 ∨ c3 = 1 := by omega
        · obtain rfl | rfl : c4 = 0 ∨ c4 = 1 := by omega
          · exact m4_00000
          · exact m4_00001
        · obtain rfl | rfl : c4 = 0 ∨ c4 = 1 := by omega
          · exact m4_00010
          · exact m4_00011
      · obtain rfl | rfl : c3 = 0 ∨ c3 = 1 := by omega
        · obtain rfl | rfl : c4 = 0 ∨ c4 = 1 := by omega
          · exact m4_00100
          · exact m4_00101
        · obtain rfl | rfl : c4 = 0 ∨ c4 = 1 := by omega
          · exact m4_00110
          · exact m4_00111
      · obtain rfl | rfl : c3 = 0 ∨ c3 = 1 := by omega
        · obtain rfl | rfl : c4 = 0 ∨ c4 = 1 := by omega
          · exact m4_00200
          · exact m4_00201
        · obtain rfl | rfl : c4 = 0 ∨ c4 = 1 := by omega
          · exact m4_00210
          · exact m4_00211
    · obtain rfl | rfl | rfl : c2 = 0 ∨ c2 = 1 ∨ c2 = 2 := by omega
      · obtain rfl | rfl : c3 = 0 ∨ c3 = 1 := by omega
        · obtain rfl | rfl : c4 = 0 ∨ c4 = 1 := by omega
          · exact m4_01000
          · exact m4_01001
        · obtain rfl | rfl : c4 = 0 ∨ c4 = 1 := by omega
          · exact m4_01010
          · exact m4_01011
      · obtain rfl | rfl : c3 = 0 ∨ c3 = 1 := by omega
        · obtain rfl | rfl : c4 = 0 ∨ c4 = 1 := by omega
          · exact m4_01100
          · exact m4_01101
        · obtain rfl | rfl : c4 = 0 ∨ c4 = 1 := by omega
          · exact m4_01110
          · exact m4_01111
      · obtain rfl | rfl : c3 = 0 ∨ c3 = 1 := by omega
        · obtain rfl | rfl : c4 = 0 ∨ c4 = 1 := by omega
          · exact m4_01200
          · exact m4_01201
        · obtain rfl | rfl : c4 = 0 ∨ c4 = 1 := by omega
          · exact m4_01210
          · exact m4_01211
  · obtain rfl | rfl : c1 = 0 ∨ c1 = 1 := by omega
    · obtain rfl | rfl | rfl : c2 = 0 ∨ c2 = 1 ∨ c2 = 2 := by omega
      · obtain rfl | rfl : c3 = 0 ∨ c3 = 1 := by omega
        · obtain rfl | rfl : c4 = 0 ∨ c4 = 1 := by omega
          · exact m4_10000
          · exact m4_10001
        · obtain rfl | rfl : c4 = 0 ∨ c4 = 1 := by omega
          · exact m4_10010
          · exact m4_10011
      · obtain rfl | rfl : c3 = 0 ∨ c3 = 1 := by omega
        · obtain rfl | rfl : c4 = 0 ∨ c4 = 1 := by omega
          · exact m4_10100
          · exact m4_10101
        · obtain rfl | rfl : c4 = 0 ∨ c4 = 1 := by omega
          · exact m4_10110
          · exact m4_10111
      · obtain rfl | rfl : c3 = 0 ∨ c3 = 1 := by omega
        · obtain rfl | rfl : c4 = 0 ∨ c4 = 1 := by omega
          · exact m4_10200
          · exact m4_10201
        · obtain rfl | rfl : c4 = 0 ∨ c4 = 1 := by omega
          · exact m4_10210
          · exact m4_10211
    · obtain rfl | rfl | rfl : c2 = 0 ∨ c2 = 1 ∨ c2 = 2 := by omega
      · obtain rfl | rfl : c3 = 0 ∨ c3 = 1 := by omega
        · obtain rfl | rfl : c4 = 0 ∨ c4 = 1 := by omega
          · exact m4_11000
          · exact m4_11001
        · obtain rfl | rfl : c4 = 0 ∨ c4 = 1 := by omega
          · exact m4_11010
          · exact m4_11011
      · obtain rfl | rfl : c3 = 0 ∨ c3 = 1 := by omega
        · obtain rfl | rfl : c4 = 0 ∨ c4 = 1 := by omega
          · exact m4_11100
          · exact m4_11101
        · obtain rfl | rfl : c4 = 0 ∨ c4 = 1 := by omega
          · exact m4_11110
          · exact m4_11111
      · obtain rfl | rfl : c3 = 0 ∨ c3 = 1 := by omega
        · obtain rfl | rfl : c4 = 0 ∨ c4 = 1 := by omega
          · exact m4_11200
          · exact m4_11201
        · obtain rfl | rfl : c4 = 0 ∨ c4 = 1 := by omega
          · exact m4_11210
          · exact m4_11211
  · obtain rfl | rfl : c1 = 0 ∨ c1 = 1 := by omega
    · obtain rfl | rfl | rfl : c2 = 0 ∨ c2 = 1 ∨ c2 = 2 := by omega
      · obtain rfl | rfl : c3 = 0 ∨ c3 = 1 := by omega
        · obtain rfl | rfl : c4 = 0 ∨ c4 = 1 := by omega
          · exact m4_20000
          · exact m4_20001
        · obtain rfl | rfl : c4 = 0 ∨ c4 = 1 := by omega
          · exact m4_20010
          · exact m4_20011
      · obtain rfl | rfl : c3 = 0 ∨ c3 = 1 := by omega
        · obtain rfl | rfl : c4 = 0 ∨ c4 = 1 := by omega
          · exact m4_20100
          · exact m4_20101
        · obtain rfl | rfl : c4 = 0 ∨ c4 = 1 := by omega
          · exact m4_20110
          · exact m4_20111
      · obtain rfl | rfl : c3 = 0 ∨ c3 = 1 := by omega
        · obtain rfl | rfl : c4 = 0 ∨ c4 = 1 := by omega
          · exact m4_20200
          · exact m4_20201
        · obtain rfl | rfl : c4 = 0 ∨ c4 = 1 := by omega
          · exact m4_20210
          · exact m4_20211
    · obtain rfl | rfl | rfl : c2 = 0 ∨ c2 = 1 ∨ c2 = 2 := by omega
      · obtain rfl | rfl : c3 = 0 ∨ c3 = 1 := by omega
        · obtain rfl | rfl : c4 = 0 ∨ c4 = 1 := by omega
          · exact m4_21000
          · exact m4_21001
        · obtain rfl | rfl : c4 = 0 ∨ c4 = 1 := by omega
          · exact m4_21010
          · exact m4_21011
      · obtain rfl | rfl : c3 = 0 ∨ c3 = 1 := by omega
        · obtain rfl | rfl : c4 = 0 ∨ c4 = 1 := by omega
          · exact m4_21100
          · exact m4_21101
        · obtain rfl | rfl : c4 = 0 ∨ c4 = 1 := by omega
          · exact m4_21110
          · exact m4_21111
      · obtain rfl | rfl : c3 = 0 ∨ c3 = 1 := by omega
        · obtain rfl | rfl : c4 = 0 ∨ c4 = 1 := by omega
          · exact m4_21200
          · exact m4_21201
        · obtain rfl | rfl : c4 = 0 ∨ c4 = 1 := by omega
          · exact m4_21210
          · exact m4_21211
end Go.Proofs.YtbfmdojdemckbaaGreat
