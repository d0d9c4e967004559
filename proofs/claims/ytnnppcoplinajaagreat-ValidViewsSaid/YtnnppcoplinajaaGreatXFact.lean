/- Lemmas for ValidViews. -/
import Derived.Test.YtnnppcoplinajaaGreatXF1
import Derived.Test.YtnnppcoplinajaaGreatXF2
import Derived.Test.YtnnppcoplinajaaGreatXF3
import Derived.Test.YtnnppcoplinajaaGreatXF4
import Derived.Test.YtnnppcoplinajaaGreatXF5
import Derived.Test.YtnnppcoplinajaaGreatRows
import Derived.ProofKit
set_option linter.all false
namespace Go.Proofs.YtnnppcoplinajaaGreat
def afi:Tryz.pinned.checked.prog.funcNamed Rows.validViewsRow.func=some 5:=by kernel_rfl
def afj:Tryz.pinned.checked.prog.inPlace 5=Rows.validViewsRow.inPlace:=by kernel_rfl
def afl:Tryz.pinned.checked.prog.unfollowed 5=true:=by kernel_rfl
def afk:Tryz.pinned.checked.prog.recurses 5=true:=by kernel_rfl
def afm:Tryz.pinned.checked.prog.varsNamed 5=[]:=by kernel_rfl
def afh:joinedFacts Tryz.pinned.checked.prog 5 Tryz.f5 Rows.validViewsSpec Rows.validViewsRow=true:=by
 unfold joinedFacts;rw[afj,afl,afk,afm,agl,agp,agt,ago,agq,agn,agr,ags,agm];kernel_rfl
def afg:Tryz.f5.isInstance Tryz.pinned.checked.prog Rows.validViewsRow.origin Rows.validViewsRow.targs:=of_decide_eq_true (by kernel_rfl)
def afn:Tryz.f5.isWrapper Tryz.pinned.checked.prog Rows.validViewsRow.wrapper Rows.validViewsRow.mainSum:=by unfold Func.isWrapper;first|(rw[if_pos (by decide+kernel)];kernel_rfl)|(rw[if_neg (by decide+kernel)];exact⟨rfl,rfl⟩)
