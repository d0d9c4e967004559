/- ValidViews holds: for every map and world the law returns true, and its arguments read as they did. -/
import Derived.Test.YtnnppcoplinajaaGreatB15
import Derived.Test.YtnnppcoplinajaaGreatXFact
set_option linter.all false
namespace Go.Proofs.YtnnppcoplinajaaGreat
def validViews_holds:Rows.ValidViewsSaid:=
 OpenClaim.holds_of_wide 5 Tryz.f5 rfl rfl rfl rfl rfl rfl rfl ⟨rfl,rfl,rfl,rfl,rfl⟩ rfl rfl rfl rfl rfl afi Tryz.func5 afh afg afn
  (fun c a H b _=>asF c a H b)
#print axioms validViews_holds
end Go.Proofs.YtnnppcoplinajaaGreat
