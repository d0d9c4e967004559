/- Settle in head(). -/
import Derived.Test.YtnnppcoplinajaaGreatM1
set_option linter.defProp false
namespace Go.Proofs.YtnnppcoplinajaaGreat
open Go.Ag
def ap0:ae:=.agg [.AL,.AL,.AL,.int .i64 0,.AL,.AL]
def a5:List ae:=[mz [mD 0 0 .AL],mz [mD 1 5 .AL],ap0]
def r5:ae:=.tup [mz [mD 1 5 .AL],.AL]
def HS:du:=(287,oU)::T3
def Wr:dc HS:=.cons IL HZ
def s0_:zr HS [2] [0] 3000 50 a5=some (r5,1):=by kernel_rfl
def s1_:zr HS [2] [1] 3000 50 a5=some (r5,1):=by kernel_rfl
def m5(c:List Nat)(h:y7 [2] c):zr HS [2] c 3000 50 a5=some (r5,1):=by
 rcases h with _|⟨h0,h⟩
 cases h;rename_i c0;obtain rfl|rfl:c0=0\/c0=1:=by omega
 exact s0_;exact s1_
