/- Lemmas for ValidParts. -/
import Derived.Test.YtnnppcoplinajaaGreatXF1
import Derived.Test.YtnnppcoplinajaaGreatXF2
import Derived.Test.YtnnppcoplinajaaGreatXF3
import Derived.Test.YtnnppcoplinajaaGreatXF4
import Derived.Test.YtnnppcoplinajaaGreatXF5
import Derived.Test.YtnnppcoplinajaaGreatRows
import Derived.ProofKit
set_option linter.all false
namespace Go.Proofs.YtnnppcoplinajaaGreat
def aiu:Tryz.pinned.checked.prog.funcNamed Rows.validPartsRow.func=some 4:=by kernel_rfl
def aiv:Tryz.pinned.checked.prog.inPlace 4=Rows.validPartsRow.inPlace:=by kernel_rfl
def aix:Tryz.pinned.checked.prog.unfollowed 4=true:=by kernel_rfl
def aiw:Tryz.pinned.checked.prog.recurses 4=true:=by kernel_rfl
def aiy:Tryz.pinned.checked.prog.varsNamed 4=[]:=by kernel_rfl
def ait:joinedFacts Tryz.pinned.checked.prog 4 Tryz.f4 Rows.validPartsSpec Rows.validPartsRow=true:=by
 unfold joinedFacts;rw[aiv,aix,aiw,aiy,aju,ajy,ajC,ajx,ajz,ajw,ajA,ajB,ajv];kernel_rfl
def ais:Tryz.f4.isInstance Tryz.pinned.checked.prog Rows.validPartsRow.origin Rows.validPartsRow.targs:=of_decide_eq_true (by kernel_rfl)
def aiz:Tryz.f4.isWrapper Tryz.pinned.checked.prog Rows.validPartsRow.wrapper Rows.validPartsRow.mainSum:=by unfold Func.isWrapper;first|(rw[if_pos (by decide+kernel)];kernel_rfl)|(rw[if_neg (by decide+kernel)];exact⟨rfl,rfl⟩)
