/- Settle in head(). -/
import Derived.Test.YtbfmdojdemckbaaGreatM1
namespace Go.Proofs.YtbfmdojdemckbaaGreat
open Go.Ag
def amt:aj:=.agg [.nils,.nils,.nils,.int .i64 0,.nils,.nils]
def a5:List aj:=[kN [kO 0 0 .nils],kN [kO 1 5 .nils],amt]
def r5:aj:=.tup [kN [kO 1 5 .nils],.nils]
def HS:eV:=(83,mS)::T3
theorem UD:fT HS:=.cons Cg BA
theorem s0_:ve HS [2] [0] 3000 21 a5=some (r5,1):=by kernel_rfl
theorem s1_:ve HS [2] [1] 3000 21 a5=some (r5,1):=by kernel_rfl
theorem m5 (c:List Nat) (h:uM [2] c):ve HS [2] c 3000 21 a5=some (r5,1):=by
 rcases h with _|⟨h0,h⟩
 cases h
 rename_i c0
 obtain rfl|rfl:c0=0\/c0=1:=by omega
 ·exact s0_
 ·exact s1_
end Go.Proofs.YtbfmdojdemckbaaGreat
