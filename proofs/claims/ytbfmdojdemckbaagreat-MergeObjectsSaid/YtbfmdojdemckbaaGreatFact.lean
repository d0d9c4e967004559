/- The closed facts of the row. -/
import Derived.Test.YtbfmdojdemckbaaGreatRows
import Derived.ProofKit
namespace Go.Proofs.YtbfmdojdemckbaaGreat
theorem WV:Tryz.pinned.checked.prog.funcNamed Rows.mergeObjectsRow.func=some 5:=by kernel_rfl
theorem WW:Tryz.pinned.checked.prog.inPlace 5=Rows.mergeObjectsRow.inPlace:=by kernel_rfl
theorem WZ:Tryz.pinned.checked.prog.unfollowed 5=true:=by kernel_rfl
theorem WY:Tryz.pinned.checked.prog.recurses 5=true:=by kernel_rfl
theorem W0:Tryz.pinned.checked.prog.varsNamed 5=[]:=by kernel_rfl
theorem WU:joinedFacts Tryz.pinned.checked.prog 5 Tryz.f5 Rows.mergeObjectsSpec Rows.mergeObjectsRow=true:=by
 unfold joinedFacts
 rw [WW,WZ,WY,W0]
 kernel_rfl
theorem WT:Tryz.f5.isInstance Tryz.pinned.checked.prog Rows.mergeObjectsRow.origin Rows.mergeObjectsRow.targs:=of_decide_eq_true (by kernel_rfl)
theorem W1:Tryz.f5.isWrapper Tryz.pinned.checked.prog Rows.mergeObjectsRow.wrapper Rows.mergeObjectsRow.mainSum:=by unfold Func.isWrapper;first|(rw [if_pos (by decide+kernel)];kernel_rfl)|(rw [if_neg (by decide+kernel)];exact⟨rfl,rfl⟩)
end Go.Proofs.YtbfmdojdemckbaaGreat
