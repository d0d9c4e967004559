/- The closed facts of the row. -/
import Derived.Test.YtbfmdojdemckbaaGreatRows
import Derived.ProofKit
/- The closed facts of the row. -/
namespace Go.Proofs.YtbfmdojdemckbaaGreat
theorem fact_named : Tryz.pinned.checked.prog.funcNamed Rows.mergeOneRow.func = some 4 := by kernel_rfl
theorem fact_place : Tryz.pinned.checked.prog.inPlace 4 = Rows.mergeOneRow.inPlace := by kernel_rfl
theorem fact_unf : Tryz.pinned.checked.prog.unfollowed 4 = true := by kernel_rfl
theorem fact_rec : Tryz.pinned.checked.prog.recurses 4 = true := by kernel_rfl
theorem fact_vars : Tryz.pinned.checked.prog.varsNamed 4 = [] := by kernel_rfl
theorem fact_joined : joinedFacts Tryz.pinned.checked.prog 4 Tryz.f4 Rows.mergeOneSpec Rows.mergeOneRow = true := by
  unfold joinedFacts
  rw [fact_place, fact_unf, fact_rec, fact_vars]
  kernel_rfl
theorem fact_inst : Tryz.f4.isInstance Tryz.pinned.checked.prog Rows.mergeOneRow.origin Rows.mergeOneRow.targs := of_decide_eq_true (by kernel_rfl)
theorem fact_wrap : Tryz.f4.isWrapper Tryz.pinned.checked.prog Rows.mergeOneRow.wrapper Rows.mergeOneRow.mainSum := by unfold Func.isWrapper; first | (rw [if_pos (by decide +kernel)]; kernel_rfl) | (rw [if_neg (by decide +kernel)]; exact ⟨rfl, rfl⟩)
end Go.Proofs.YtbfmdojdemckbaaGreat
