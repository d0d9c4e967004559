/- Settle in head(). -/
import Derived.Test.YtbfmdojdemckbaaGreatM1
namespace Go.Proofs.YtbfmdojdemckbaaGreat
open Go.Ag
def aqo:aj:=.agg [.nils,.nils,.nils,.int .i64 0,.nils,.nils]
def a5:List aj:=[lG [lH 0 0 .nils],lG [lH 1 5 .nils],aqo]
def r5:aj:=.tup [lG [lH 1 5 .nils],.nils]
def HS:fh:=(83,nP)::T3
theorem Xb:fI HS:=.cons CU Cj
theorem s0_:vT HS [2] [0] 3000 21 a5=some (r5,1):=by kernel_rfl
theorem s1_:vT HS [2] [1] 3000 21 a5=some (r5,1):=by kernel_rfl
theorem m5 (c:List Nat) (h:vB [2] c):vT HS [2] c 3000 21 a5=some (r5,1):=by
 rcases h with _|⟨h0,h⟩
 cases h
 rename_i c0
 obtain rfl|rfl:c0=0\/c0=1:=by omega
 ·exact s0_
 ·exact s1_
end Go.Proofs.YtbfmdojdemckbaaGreat
