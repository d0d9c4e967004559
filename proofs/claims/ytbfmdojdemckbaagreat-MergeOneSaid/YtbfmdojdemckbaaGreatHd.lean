/- head() returns true. -/
import Derived.Test.YtbfmdojdemckbaaGreatHdA
import Derived.Test.YtbfmdojdemckbaaGreatHdC
import Derived.Test.YtbfmdojdemckbaaGreatHdS
/- head() -/
namespace Go.Proofs.YtbfmdojdemckbaaGreat
open Go.Ag
def stripM : AVal → AVal
  | .agg [.list n xs _] => .agg [.list n xs .no]
  | v => v
theorem vr_strip {G : Gh} {v : AVal} {y : Value} (h : VR G v y) : VR G (stripM v) y := by
  unfold stripM
  split
  · cases h with
    | agg hs hv =>
      cases hv with
      | cons a b =>
        cases b
        cases a with
        | list p1 p2 p3 p4 p5 p6 => exact .agg rfl (.cons (.list p1 p2 p3 p4 p5 trivial) .nil)
  · exact h
theorem vrs_strip {G : Gh} : ∀ {l : List AVal} {ys : List Value}, VRs G l ys → VRs G (l.map stripM) ys
  | [], _, .nil => .nil
  | _ :: _, _, .cons a b => .cons (vr_strip a) (vrs_strip b)
def hdMerge (l : List AVal) : Option AVal :=
  bif eqSL (eqS 9) l a1 then some r1 else bif eqSL (eqS 9) l a2 then some r2 else bif eqSL (eqS 9) l a3 then some r3 else bif eqSL (eqS 9) l a4 then some r4 else none
def hdMergeSp : Sp := fun l => hdMerge (l.map stripM)
def hdSettleSp : Sp := fun l => bif eqSL (eqS 9) (l.map stripM) a5 then some r5 else none
theorem one_pos : ∀ i, 0 < nthD [] i 1 := fun _ => Nat.zero_lt_one
theorem hdMergeSp_ok : SpecOk Tryz.prog 9 hdMergeSp := by
  intro args u hv G h w xs wr hx
  have hx := vrs_strip hx
  unfold hdMergeSp hdMerge at hv
  generalize args.map stripM = l at hv hx
  cases h1 : eqSL (eqS 9) l a1 with
  | true =>
    rw [h1] at hv
    have h1 := eqSL_eq (fun a b => eqS_eq 9) h1
    subst h1
    injection hv with hv; subst hv
    exact spec_of_evalH HT_ok one_pos (Nat.le_refl 0) (fun c hc => by cases hc; exact m1) (args' := a1) (by kernel_rfl) (by kernel_rfl) G h w xs wr hx
  | false =>
  rw [h1] at hv
  cases h2 : eqSL (eqS 9) l a2 with
  | true =>
    rw [h2] at hv
    have h2 := eqSL_eq (fun a b => eqS_eq 9) h2
    subst h2
    injection hv with hv; subst hv
    exact spec_of_evalH HT_ok one_pos (Nat.le_refl 0) (fun c hc => by cases hc; exact m2) (args' := a2) (by kernel_rfl) (by kernel_rfl) G h w xs wr hx
  | false =>
  rw [h2] at hv
  cases h3 : eqSL (eqS 9) l a3 with
  | true =>
    rw [h3] at hv
    have h3 := eqSL_eq (fun a b => eqS_eq 9) h3
    subst h3
    injection hv with hv; subst hv
    exact spec_of_evalH HT_ok one_pos (Nat.le_refl 0) (fun c hc => by cases hc; exact m3) (args' := a3) (by kernel_rfl) (by kernel_rfl) G h w xs wr hx
  | false =>
  rw [h3] at hv
  cases h4 : eqSL (eqS 9) l a4 with
  | false => rw [h4] at hv; cases hv
  | true =>
    rw [h4] at hv
    have h4 := eqSL_eq (fun a b => eqS_eq 9) h4
    subst h4
    injection hv with hv; subst hv
    refine spec_of_evalH HT_ok (fun i => ?_) (Nat.le_refl 5) m4 (args' := a4) (by kernel_rfl) (by kernel_rfl) G h w xs wr hx
    match i with
    | 0 | 1 | 2 | 3 | 4 => decide
    | i + 5 => exact Nat.zero_lt_one
theorem hdSettleSp_ok : SpecOk Tryz.prog 21 hdSettleSp := by
  intro args u hv G h w xs wr hx
  have hx := vrs_strip hx
  unfold hdSettleSp at hv
  generalize args.map stripM = l at hv hx
  obtain ⟨h1, hv⟩ := bif_none hv
  have h1 := eqSL_eq (fun a b => eqS_eq 9) h1
  subst h1
  injection hv with hv; subst hv
  refine spec_of_evalH HS_ok (fun i => ?_) (Nat.le_refl 1) m5 (args' := a5) (by kernel_rfl) (by kernel_rfl) G h w xs wr hx
  match i with
  | 0 => decide
  | i + 1 => exact Nat.zero_lt_one
def HT2 : Tbl := (9, hdMergeSp) :: (21, hdSettleSp) :: HT
theorem HT2_ok : TblOk HT2 := .cons hdMergeSp_ok (.cons hdSettleSp_ok HT_ok)
theorem evHead : evalH HT2 [] [] 3000 7 [] = some (.bool true, 0) := by kernel_rfl
def headSp : Sp
  | [] => some (.bool true)
  | _ => none
theorem headSp_ok : SpecOk Tryz.prog 7 headSp := by
  intro args v hv G h w xs wr hx
  cases args with
  | nil =>
    injection hv with hv; subst hv
    exact spec_of_evalH HT2_ok one_pos (Nat.le_refl 0) (fun c hc => by cases hc; exact evHead) (args' := []) rfl rfl G h w xs wr hx
  | cons _ _ => cases hv
end Go.Proofs.YtbfmdojdemckbaaGreat
