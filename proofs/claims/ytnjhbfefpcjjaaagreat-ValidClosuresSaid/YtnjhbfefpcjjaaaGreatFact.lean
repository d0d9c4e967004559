/- The closed facts of the row. -/
import Derived.Test.YtnjhbfefpcjjaaaGreatRows
import Derived.ProofKit
/- The closed facts of the row. -/
namespace Go.Proofs.YtnjhbfefpcjjaaaGreat
theorem fact_named : Tryz.pinned.checked.prog.funcNamed Rows.validClosuresRow.func = some 5 := by kernel_rfl
theorem fact_place : Tryz.pinned.checked.prog.inPlace 5 = Rows.validClosuresRow.inPlace := by kernel_rfl
theorem fact_unf : Tryz.pinned.checked.prog.unfollowed 5 = true := by kernel_rfl
theorem fact_rec : Tryz.pinned.checked.prog.recurses 5 = true := by kernel_rfl
theorem fact_vars : Tryz.pinned.checked.prog.varsNamed 5 = [] := by kernel_rfl
theorem fact_joined : joinedFacts Tryz.pinned.checked.prog 5 Tryz.f5 Rows.validClosuresSpec Rows.validClosuresRow = true := by
  unfold joinedFacts
  rw [fact_place, fact_unf, fact_rec, fact_vars]
  kernel_rfl
theorem fact_inst : Tryz.f5.isInstance Tryz.pinned.checked.prog Rows.validClosuresRow.origin Rows.validClosuresRow.targs := of_decide_eq_true (by kernel_rfl)
theorem fact_wrap : Tryz.f5.isWrapper Tryz.pinned.checked.prog Rows.validClosuresRow.wrapper Rows.validClosuresRow.mainSum := by unfold Func.isWrapper; first | (rw [if_pos (by decide +kernel)]; kernel_rfl) | (rw [if_neg (by decide +kernel)]; exact ⟨rfl, rfl⟩)
end Go.Proofs.YtnjhbfefpcjjaaaGreat
