/- ValidParts holds: for all arguments the law returns true, and its arguments read as they did. -/
import Derived.Test.YtnnppcoplinajaaGreatB15
import Derived.Test.YtnnppcoplinajaaGreatXFact
set_option linter.all false
namespace Go.Proofs.YtnnppcoplinajaaGreat
def validParts_holds:Rows.ValidPartsSaid:=
 OpenClaim.holds_of_wide 4 Tryz.f4 rfl rfl rfl rfl rfl rfl rfl ⟨rfl,rfl,rfl,rfl,rfl⟩ rfl rfl rfl rfl rfl aiu Tryz.func4 ait ais aiz
  (fun c a H b _=>axE c a H b)
#print axioms validParts_holds
end Go.Proofs.YtnnppcoplinajaaGreat
