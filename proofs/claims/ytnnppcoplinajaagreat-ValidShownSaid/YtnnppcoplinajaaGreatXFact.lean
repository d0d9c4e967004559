/- Lemmas for ValidShown. -/
import Derived.Test.YtnnppcoplinajaaGreatXF1
import Derived.Test.YtnnppcoplinajaaGreatXF2
import Derived.Test.YtnnppcoplinajaaGreatXF3
import Derived.Test.YtnnppcoplinajaaGreatXF4
import Derived.Test.YtnnppcoplinajaaGreatXF5
import Derived.Test.YtnnppcoplinajaaGreatRows
import Derived.ProofKit
set_option linter.all false
namespace Go.Proofs.YtnnppcoplinajaaGreat
def ajU:Tryz.pinned.checked.prog.funcNamed Rows.validShownRow.func=some 6:=by kernel_rfl
def ajV:Tryz.pinned.checked.prog.inPlace 6=Rows.validShownRow.inPlace:=by kernel_rfl
def ajX:Tryz.pinned.checked.prog.unfollowed 6=true:=by kernel_rfl
def ajW:Tryz.pinned.checked.prog.recurses 6=true:=by kernel_rfl
def ajY:Tryz.pinned.checked.prog.varsNamed 6=[]:=by kernel_rfl
def ajT:joinedFacts Tryz.pinned.checked.prog 6 Tryz.f6 Rows.validShownSpec Rows.validShownRow=true:=by
 unfold joinedFacts;rw[ajV,ajX,ajW,ajY,akW,ak0,ak4,akZ,ak1,akY,ak2,ak3,akX];kernel_rfl
def ajS:Tryz.f6.isInstance Tryz.pinned.checked.prog Rows.validShownRow.origin Rows.validShownRow.targs:=of_decide_eq_true (by kernel_rfl)
def ajZ:Tryz.f6.isWrapper Tryz.pinned.checked.prog Rows.validShownRow.wrapper Rows.validShownRow.mainSum:=by unfold Func.isWrapper;first|(rw[if_pos (by decide+kernel)];kernel_rfl)|(rw[if_neg (by decide+kernel)];exact⟨rfl,rfl⟩)
