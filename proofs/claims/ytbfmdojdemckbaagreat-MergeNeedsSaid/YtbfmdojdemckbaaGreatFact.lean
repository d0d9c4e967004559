/- The closed facts of the row. -/
import Derived.Test.YtbfmdojdemckbaaGreatRows
import Derived.ProofKit
namespace Go.Proofs.YtbfmdojdemckbaaGreat
theorem aaa:Tryz.pinned.checked.prog.funcNamed Rows.mergeNeedsRow.func=some 6:=by kernel_rfl
theorem aab:Tryz.pinned.checked.prog.inPlace 6=Rows.mergeNeedsRow.inPlace:=by kernel_rfl
theorem aad:Tryz.pinned.checked.prog.unfollowed 6=true:=by kernel_rfl
theorem aac:Tryz.pinned.checked.prog.recurses 6=true:=by kernel_rfl
theorem aae:Tryz.pinned.checked.prog.varsNamed 6=[]:=by kernel_rfl
theorem Z9:joinedFacts Tryz.pinned.checked.prog 6 Tryz.f6 Rows.mergeNeedsSpec Rows.mergeNeedsRow=true:=by
 unfold joinedFacts
 rw[aab,aad,aac,aae]
 kernel_rfl
theorem Z8:Tryz.f6.isInstance Tryz.pinned.checked.prog Rows.mergeNeedsRow.origin Rows.mergeNeedsRow.targs:=of_decide_eq_true (by kernel_rfl)
theorem aaf:Tryz.f6.isWrapper Tryz.pinned.checked.prog Rows.mergeNeedsRow.wrapper Rows.mergeNeedsRow.mainSum:=by unfold Func.isWrapper;first|(rw[if_pos (by decide+kernel)];kernel_rfl)|(rw[if_neg (by decide+kernel)];exact⟨rfl,rfl⟩)
end Go.Proofs.YtbfmdojdemckbaaGreat
