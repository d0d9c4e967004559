/- Settle in head(). -/
import Derived.Test.YtbfmdojdemckbaaGreatHd0
/- head(): Settle -/
namespace Go.Proofs.YtbfmdojdemckbaaGreat
open Go.Ag
def world0 : AVal := .agg [.nils, .nils, .nils, .int .i64 0, .nils, .nils]
def a5 : List AVal := [mapA [nodeO 0 0 .nils], mapA [nodeO 1 5 .nils], world0]
def r5 : AVal := .tup [mapA [nodeO 1 5 .nils], .nils]
def HS : Tbl := (26, keysSp) :: (120, keys3Sp) :: (83, cmpSp) :: T3
theorem HS_ok : TblOk HS := .cons keysSp_ok (.cons keys3Sp_ok (.cons cmpSp_ok T3_ok))
theorem s0_ : evalH HS [2] [0] 3000 21 a5 = some (r5, 1) := by kernel_rfl
theorem s1_ : evalH HS [2] [1] 3000 21 a5 = some (r5, 1) := by kernel_rfl
theorem m5 (c : List Nat) (h : Within [2] c) : evalH HS [2] c 3000 21 a5 = some (r5, 1) := by
  rcases h with _ | ⟨h0, h⟩
  cases h
  rename_i c0
  obtain rfl | rfl : c0 = 0 ∨ c0 = 1 := by omega
  · exact s0_
  · exact s1_
end Go.Proofs.YtbfmdojdemckbaaGreat
