/- ValidApart holds: for all arguments the law returns true, and its arguments read as they did. -/
import Derived.Test.YtnnppcoplinajaaGreatB16
import Derived.Test.YtnnppcoplinajaaGreatXFact
set_option linter.all false
namespace Go.Proofs.YtnnppcoplinajaaGreat
def validApart_holds:Rows.ValidApartSaid:=
 OpenClaim.holds_of_wide 7 Tryz.f7 rfl rfl rfl rfl rfl rfl rfl ⟨rfl,rfl,rfl,rfl,rfl⟩ rfl rfl rfl rfl rfl afi Tryz.func7 afh afg afn
  (fun c a H b _=>aCf c a H b)
#print axioms validApart_holds
end Go.Proofs.YtnnppcoplinajaaGreat
