/- ValidShown holds: for all arguments the law returns true, and its arguments read as they did. -/
import Derived.Test.YtnnppcoplinajaaGreatB16
import Derived.Test.YtnnppcoplinajaaGreatXFact
set_option linter.all false
namespace Go.Proofs.YtnnppcoplinajaaGreat
def validShown_holds:Rows.ValidShownSaid:=
 OpenClaim.holds_of_wide 6 Tryz.f6 rfl rfl rfl rfl rfl rfl rfl ⟨rfl,rfl,rfl,rfl,rfl⟩ rfl rfl rfl rfl rfl ajU Tryz.func6 ajT ajS ajZ
  (fun c a H b _=>azp c a H b)
#print axioms validShown_holds
end Go.Proofs.YtnnppcoplinajaaGreat
