/- Lemmas for PartUnits. -/
import Derived.Test.YtnhmcokmdhgpbaaGreatXF1
import Derived.Test.YtnhmcokmdhgpbaaGreatXF2
import Derived.Test.YtnhmcokmdhgpbaaGreatXF3
import Derived.Test.YtnhmcokmdhgpbaaGreatXF4
import Derived.Test.YtnhmcokmdhgpbaaGreatXF5
import Derived.Test.YtnhmcokmdhgpbaaGreatRows
import Derived.ProofKit
set_option linter.all false
open Option renaming some→X
open Bool renaming true→O
namespace Go.Proofs.YtnhmcokmdhgpbaaGreat
def am2:Tryz.pinned.checked.prog.funcNamed Rows.partUnitsRow.func=X 3:=by kernel_rfl
def am3:Tryz.pinned.checked.prog.inPlace 3=Rows.partUnitsRow.inPlace:=by kernel_rfl
def am5:Tryz.pinned.checked.prog.unfollowed 3=O:=by kernel_rfl
def am4:Tryz.pinned.checked.prog.recurses 3=O:=by kernel_rfl
def am6:Tryz.pinned.checked.prog.varsNamed 3=[]:=by kernel_rfl
def am1:joinedFacts Tryz.pinned.checked.prog 3 Tryz.f3 Rows.partUnitsSpec Rows.partUnitsRow=O:=by
 unfold joinedFacts;rw[am3,am5,am4,am6,an3,an7,aob,an6,an8,an5,an9,aoa,an4];kernel_rfl
def am0:Tryz.f3.isInstance Tryz.pinned.checked.prog Rows.partUnitsRow.origin Rows.partUnitsRow.targs:=of_decide_eq_true (by kernel_rfl)
def am7:Tryz.f3.isWrapper Tryz.pinned.checked.prog Rows.partUnitsRow.wrapper Rows.partUnitsRow.mainSum:=by unfold Func.isWrapper;first|(rw[if_pos (by decide+kernel)];kernel_rfl)|(rw[if_neg (by decide+kernel)];exact⟨rfl,rfl⟩)
