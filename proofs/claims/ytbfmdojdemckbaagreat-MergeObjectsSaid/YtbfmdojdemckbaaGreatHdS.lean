/- Settle in head(). -/
import Derived.Test.YtbfmdojdemckbaaGreatHd0
namespace Go.Proofs.YtbfmdojdemckbaaGreat
open Go.Ag
def al1:ai:=.agg [.nils,.nils,.nils,.int .i64 0,.nils,.nils]
def a5:List ai:=[kq [kr 0 0 .nils],kq [kr 1 5 .nils],al1]
def r5:ai:=.tup [kq [kr 1 5 .nils],.nils]
def HS:eE:=(83,mj)::T3
theorem TP:fV HS:=.cons BN Bc
theorem s0_:uQ HS [2] [0] 3000 21 a5=some (r5,1):=by kernel_rfl
theorem s1_:uQ HS [2] [1] 3000 21 a5=some (r5,1):=by kernel_rfl
theorem m5 (c:List Nat) (h:uw [2] c):uQ HS [2] c 3000 21 a5=some (r5,1):=by
 rcases h with _|⟨h0,h⟩
 cases h
 rename_i c0
 obtain rfl|rfl:c0=0∨c0=1:=by omega
 ·exact s0_
 ·exact s1_
end Go.Proofs.YtbfmdojdemckbaaGreat
