/- Lemmas for PartKeeps. -/
import Derived.Test.YtakkigoeiahlcaaGreatXF1
import Derived.Test.YtakkigoeiahlcaaGreatXF2
import Derived.Test.YtakkigoeiahlcaaGreatXF3
import Derived.Test.YtakkigoeiahlcaaGreatXF4
import Derived.Test.YtakkigoeiahlcaaGreatXF5
import Derived.Test.YtakkigoeiahlcaaGreatRows
import Derived.ProofKit
set_option linter.all false
open Option renaming some→X
open Bool renaming true→O
namespace Go.Proofs.YtakkigoeiahlcaaGreat
def ame:Tryz.pinned.checked.prog.funcNamed Rows.partKeepsRow.func=X 3:=by kernel_rfl
def amf:Tryz.pinned.checked.prog.inPlace 3=Rows.partKeepsRow.inPlace:=by kernel_rfl
def amh:Tryz.pinned.checked.prog.unfollowed 3=O:=by kernel_rfl
def amg:Tryz.pinned.checked.prog.recurses 3=O:=by kernel_rfl
def ami:Tryz.pinned.checked.prog.varsNamed 3=[]:=by kernel_rfl
def amd:joinedFacts Tryz.pinned.checked.prog 3 Tryz.f3 Rows.partKeepsSpec Rows.partKeepsRow=O:=by
 unfold joinedFacts;rw[amf,amh,amg,ami,anb,ang,ank,anf,anh,ane,ani,anj,anc];kernel_rfl
def amc:Tryz.f3.isInstance Tryz.pinned.checked.prog Rows.partKeepsRow.origin Rows.partKeepsRow.targs:=of_decide_eq_true (by kernel_rfl)
def amj:Tryz.f3.isWrapper Tryz.pinned.checked.prog Rows.partKeepsRow.wrapper Rows.partKeepsRow.mainSum:=by unfold Func.isWrapper;first|(rw[if_pos (by decide+kernel)];kernel_rfl)|(rw[if_neg (by decide+kernel)];exact⟨rfl,rfl⟩)
