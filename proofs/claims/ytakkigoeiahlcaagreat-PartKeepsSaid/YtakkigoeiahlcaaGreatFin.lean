/- PartKeeps holds: for all arguments the law returns true, and its arguments read as they did. -/
import Derived.Test.YtakkigoeiahlcaaGreatB12
import Derived.Test.YtakkigoeiahlcaaGreatXFact
set_option linter.all false
namespace Go.Proofs.YtakkigoeiahlcaaGreat
def partKeeps_holds:Rows.PartKeepsSaid:=
 OpenClaim.holds_of_wide 3 Tryz.f3 rfl rfl rfl rfl rfl rfl rfl ⟨rfl,rfl,rfl,rfl,rfl⟩ rfl rfl rfl rfl rfl ame Tryz.func3 amd amc amj
  (λc a H b _=>aAe c a H b)
#print axioms partKeeps_holds
end Go.Proofs.YtakkigoeiahlcaaGreat
