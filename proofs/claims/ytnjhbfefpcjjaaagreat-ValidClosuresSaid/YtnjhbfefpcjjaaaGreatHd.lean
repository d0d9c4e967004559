/- head() returns true. -/
import Derived.Test.YtnjhbfefpcjjaaaGreatHdA
import Derived.Test.YtnjhbfefpcjjaaaGreatHdB0
import Derived.Test.YtnjhbfefpcjjaaaGreatHdB1
import Derived.Test.YtnjhbfefpcjjaaaGreatHdC
/- valid.Check's contract at the closed arguments; head(). -/
namespace Go.Proofs.YtnjhbfefpcjjaaaGreat
open Go.Ag
theorem checkSp_ok : SpecOk Tryz.prog 12 checkSp := by
  intro args u hv G h w xs wr hx
  unfold checkSp at hv
  split at hv
  · rename_i n ys r wv
    obtain ⟨h6, hv'⟩ := bif_none hv
    clear hv
    have hv := hv'
    clear hv'
    have h6 := Nat.eq_of_beq_eq_true h6
    subst h6
    have hx := vrs_forget hx
    cases h1 : eqSL (eqS 9) ys lostO with
    | true =>
      rw [h1] at hv
      have h1 := eqSL_eq (fun a b => eqS_eq 9) h1
      subst h1
      cases h2 : eqS 9 wv world0 with
      | true =>
        rw [h2] at hv
        have h2 := eqS_eq 9 h2
        subst h2
        injection hv with hv; subst hv
        exact spec_of_evalC T7_ok evA (args' := [lostM, world0]) (by kernel_rfl) (by kernel_rfl) G h w xs wr hx
      | false =>
        rw [h2] at hv
        simp only [cond_true, cond_false] at hv
        obtain ⟨h2', hv⟩ := bif_none hv
        have h2 := eqS_eq 9 h2'
        subst h2
        injection hv with hv; subst hv
        exact spec_of_evalC T7_ok evE (args' := [lostM, worldV]) (by kernel_rfl) (by kernel_rfl) G h w xs wr hx
    | false =>
      rw [h1] at hv
      simp only [cond_false] at hv
      obtain ⟨h1', hv'⟩ := bif_none hv
      clear hv
      have hv := hv'
      clear hv'
      have h1 := eqSL_eq (fun a b => eqS_eq 9) h1'
      subst h1
      cases h2 : eqS 9 wv worldV with
      | true =>
        rw [h2] at hv
        have h2 := eqS_eq 9 h2
        subst h2
        injection hv with hv; subst hv
        exact spec_of_evalD T7_ok evB0 evB1 (args' := [crossM, worldV]) (by kernel_rfl) (by kernel_rfl) G h w xs wr hx
      | false =>
        rw [h2] at hv
        simp only [cond_false] at hv
        obtain ⟨h2', hv⟩ := bif_none hv
        have h2 := eqS_eq 9 h2'
        subst h2
        injection hv with hv; subst hv
        exact spec_of_evalC T7_ok evC (args' := [crossM, worldR]) (by kernel_rfl) (by kernel_rfl) G h w xs wr hx
  · rename_i wv
    obtain ⟨h2, hv⟩ := bif_none hv
    have h2 := eqS_eq 9 h2
    subst h2
    injection hv with hv; subst hv
    exact spec_of_evalC T7_ok evD (args' := [.agg [.nils], worldV]) (by kernel_rfl) (by kernel_rfl) G h w xs wr hx
  · cases hv
def T8 : Tbl := (12, checkSp) :: T7
theorem T8_ok : TblOk T8 := .cons checkSp_ok T7_ok
theorem evH : evalC T8 3000 9 [] = some (.bool true, 0) := by kernel_rfl
def headSp : Sp
  | [] => some (.bool true)
  | _ => none
theorem headSp_ok : SpecOk Tryz.prog 9 headSp := by
  intro args v hv G h w xs wr hx
  cases args with
  | nil =>
    injection hv with hv; subst hv
    exact spec_of_evalC T8_ok evH rfl rfl G h w xs wr hx
  | cons _ _ => cases hv
end Go.Proofs.YtnjhbfefpcjjaaaGreat
