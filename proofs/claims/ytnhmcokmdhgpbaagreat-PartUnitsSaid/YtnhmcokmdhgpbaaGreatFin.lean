/- PartUnits holds: for all arguments the law returns true, and its arguments read as they did. -/
import Derived.Test.YtnhmcokmdhgpbaaGreatB11
import Derived.Test.YtnhmcokmdhgpbaaGreatXFact
set_option linter.all false
namespace Go.Proofs.YtnhmcokmdhgpbaaGreat
def partUnits_holds:Rows.PartUnitsSaid:=
 OpenClaim.holds_of_wide 3 Tryz.f3 rfl rfl rfl rfl rfl rfl rfl ⟨rfl,rfl,rfl,rfl,rfl⟩ rfl rfl rfl rfl rfl am2 Tryz.func3 am1 am0 am7
  (λc a H b _=>aBf c a H b)
#print axioms partUnits_holds
end Go.Proofs.YtnhmcokmdhgpbaaGreat
