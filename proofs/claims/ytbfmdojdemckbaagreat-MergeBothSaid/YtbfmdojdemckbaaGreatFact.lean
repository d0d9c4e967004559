/- The closed facts of the row. -/
import Derived.Test.YtbfmdojdemckbaaGreatRows
import Derived.ProofKit
namespace Go.Proofs.YtbfmdojdemckbaaGreat
theorem XS:Tryz.pinned.checked.prog.funcNamed Rows.mergeBothRow.func=some 3:=by kernel_rfl
theorem XT:Tryz.pinned.checked.prog.inPlace 3=Rows.mergeBothRow.inPlace:=by kernel_rfl
theorem XV:Tryz.pinned.checked.prog.unfollowed 3=true:=by kernel_rfl
theorem XU:Tryz.pinned.checked.prog.recurses 3=true:=by kernel_rfl
theorem XW:Tryz.pinned.checked.prog.varsNamed 3=[]:=by kernel_rfl
theorem XR:joinedFacts Tryz.pinned.checked.prog 3 Tryz.f3 Rows.mergeBothSpec Rows.mergeBothRow=true:=by
 unfold joinedFacts
 rw[XT,XV,XU,XW]
 kernel_rfl
theorem XQ:Tryz.f3.isInstance Tryz.pinned.checked.prog Rows.mergeBothRow.origin Rows.mergeBothRow.targs:=of_decide_eq_true (by kernel_rfl)
theorem XX:Tryz.f3.isWrapper Tryz.pinned.checked.prog Rows.mergeBothRow.wrapper Rows.mergeBothRow.mainSum:=by unfold Func.isWrapper;first|(rw[if_pos (by decide+kernel)];kernel_rfl)|(rw[if_neg (by decide+kernel)];exact⟨rfl,rfl⟩)
end Go.Proofs.YtbfmdojdemckbaaGreat
