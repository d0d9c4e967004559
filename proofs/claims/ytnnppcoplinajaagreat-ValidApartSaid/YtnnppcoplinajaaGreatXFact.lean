/- Lemmas for ValidApart. -/
import Derived.Test.YtnnppcoplinajaaGreatXF1
import Derived.Test.YtnnppcoplinajaaGreatXF2
import Derived.Test.YtnnppcoplinajaaGreatXF3
import Derived.Test.YtnnppcoplinajaaGreatXF4
import Derived.Test.YtnnppcoplinajaaGreatXF5
import Derived.Test.YtnnppcoplinajaaGreatRows
import Derived.ProofKit
set_option linter.all false
namespace Go.Proofs.YtnnppcoplinajaaGreat
def afi:Tryz.pinned.checked.prog.funcNamed Rows.validApartRow.func=some 7:=by kernel_rfl
def afj:Tryz.pinned.checked.prog.inPlace 7=Rows.validApartRow.inPlace:=by kernel_rfl
def afl:Tryz.pinned.checked.prog.unfollowed 7=true:=by kernel_rfl
def afk:Tryz.pinned.checked.prog.recurses 7=true:=by kernel_rfl
def afm:Tryz.pinned.checked.prog.varsNamed 7=[]:=by kernel_rfl
def afh:joinedFacts Tryz.pinned.checked.prog 7 Tryz.f7 Rows.validApartSpec Rows.validApartRow=true:=by
 unfold joinedFacts;rw[afj,afl,afk,afm,agl,agp,agt,ago,agq,agn,agr,ags,agm];kernel_rfl
def afg:Tryz.f7.isInstance Tryz.pinned.checked.prog Rows.validApartRow.origin Rows.validApartRow.targs:=of_decide_eq_true (by kernel_rfl)
def afn:Tryz.f7.isWrapper Tryz.pinned.checked.prog Rows.validApartRow.wrapper Rows.validApartRow.mainSum:=by unfold Func.isWrapper;first|(rw[if_pos (by decide+kernel)];kernel_rfl)|(rw[if_neg (by decide+kernel)];exact⟨rfl,rfl⟩)
