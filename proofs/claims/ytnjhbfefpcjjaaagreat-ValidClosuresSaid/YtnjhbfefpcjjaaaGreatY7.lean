/- Closed arguments of valid.Check. -/
import Derived.Test.YtnjhbfefpcjjaaaGreatY6
/- The closed check head(): its arguments and answers. -/
namespace Go.Proofs.YtnjhbfefpcjjaaaGreat
open Go.Ag

def n1 : Bytes := [110, 49]
def n2 : Bytes := [110, 50]
def n3 : Bytes := [110, 51]
def n4 : Bytes := [110, 52]
def w1 : Bytes := [119, 49]
def w2 : Bytes := [119, 50]
def vv : Bytes := [118]
def lostO : List AVal := [.agg [.str w1, .int .i64 2, .int .i64 0, .int .i64 0, .list 1 [.str n1, .str n2] .full, .nils]]
def crossO : List AVal :=
  [.agg [.str n1, .int .i64 1, .int .i64 0, .int .i64 0, .nils, .nils],
   .agg [.str n2, .int .i64 1, .int .i64 4, .int .i64 4, .nils, .nils],
   .agg [.str n3, .int .i64 1, .int .i64 0, .int .i64 4, .nils, .nils],
   .agg [.str n4, .int .i64 1, .int .i64 4, .int .i64 0, .nils, .nils],
   .agg [.str w1, .int .i64 2, .int .i64 0, .int .i64 0, .list 1 [.str n1, .str n2] .full, .nils],
   .agg [.str w2, .int .i64 2, .int .i64 0, .int .i64 0, .list 1 [.str n3, .str n4] .full, .list 2 [.agg [.str [118, 105, 101, 119], .str vv]] .full]]
def world0 : AVal := .agg [.nils, .nils, .nils, .int .i64 0, .nils, .nils]
def worldV : AVal := .agg [.nils, .nils, .nils, .int .i64 0, .list 1 [.str vv] .full, .nils]
def worldR : AVal := .agg [.nils, .nils, .nils, .int .i64 0, .nils, .list 8 [.agg [.bool true, .str [], .int .i64 2, .str [], .str [], .int .i64 1, .str [110, 97, 109, 101], .nils]] .full]
def resA : AVal := .list 3 [.agg [.str [], .int .i64 1, .list 1 [.str w1] .full]] .no
def resB : AVal := .list 3 [.agg [.str vv, .int .i64 2, .list 1 [.str w1, .str w2] .no]] .no
def resC : AVal := .list 3 [.agg [.str [], .int .i64 7, .list 1 [.str w1] .full]] .no
def resE : AVal := .list 3 [.agg [.str [], .int .i64 1, .list 1 [.str w1] .full], .agg [.str vv, .int .i64 1, .list 1 [.str w1] .full]] .no
def lostM : AVal := .agg [.list 6 lostO .no]
def crossM : AVal := .agg [.list 6 crossO .no]

/-- a closed call, for one choice -/
noncomputable def evalD (t : Tbl) (c : Nat) (n f : Nat) (args : List AVal) : Option (AVal × Nat) := ((lvl ((QT t).at (fun _ => c)) n).call f args [] s0).bind fun x => (frz x.2.heap 12 x.1).bind fun u => some (u, x.2.ci)

theorem spec_of_evalD {t : Tbl} (ht : TblOk t) {n f : Nat} {args : List AVal} {u : AVal} (h0 : evalD t 0 n f args = some (u, 1)) (h1 : evalD t 1 n f args = some (u, 1)) {args' : List AVal} (ha : weaks args' = args) (hp : tops args' = true) (G : Gh) (hh : Trie AObj) (w : World) (xs : List Value) (wr : WR G hh w) (hx : VRs G args' xs) :
    CallsTo Tryz.prog f ⟨xs⟩ w fun y w' => ∃ G', WR G' hh w' ∧ Ext G hh w G' hh w' 0 0 ∧ VR G' u y := by
  simp only [evalD, Option.bind_eq_some_iff, Option.some.injEq, Prod.mk.injEq] at h0 h1
  obtain ⟨⟨v0, s0'⟩, a0, u0, b0, rfl, c0⟩ := h0
  obtain ⟨⟨v1, s1'⟩, a1, u1, b1, e1, c1⟩ := h1
  subst e1
  refine spec_of_eval2 (Q := QT t) (n := n) (good_of ht) (show 0 < 2 from Nat.zero_lt_succ 1) hp (fun ch hi => ?_) G hh w xs wr hx
  rw [ha]
  have hc : ch 0 < 2 := hi 0
  have hc : ch 0 = 0 ∨ ch 0 = 1 := by omega
  rcases hc with hc | hc
  · exact ⟨v0, s0', (lvl_ch (QT t) n).call f args [] (fun _ => 0) s0 v0 s0' a0 ch (fun i hi => by
      have c0 : s0'.ci = 1 := c0
      have : i = 0 := by omega
      subst this; exact hc), 12, b0⟩
  · exact ⟨v1, s1', (lvl_ch (QT t) n).call f args [] (fun _ => 1) s0 v1 s1' a1 ch (fun i hi => by
      have c1 : s1'.ci = 1 := c1
      have : i = 0 := by omega
      subst this; exact hc), 12, b1⟩

def eqR : Right → Right → Bool
  | .full, .full => true
  | .no, .no => true
  | _, _ => false
def eqSL (g : AVal → AVal → Bool) : List AVal → List AVal → Bool
  | [], [] => true
  | a :: x, b :: y => g a b && eqSL g x y
  | _, _ => false
def eqS : Nat → AVal → AVal → Bool
  | 0, _, _ => false
  | _ + 1, .bool a, .bool b => a == b
  | _ + 1, .int k a, .int k' b => k == k' && ieq a b
  | _ + 1, .str a, .str b => a == b
  | k + 1, .agg a, .agg b => eqSL (eqS k) a b
  | _ + 1, .nils, .nils => true
  | k + 1, .list n a r, .list m b r' => Nat.beq n m && eqR r r' && eqSL (eqS k) a b
  | _, _, _ => false
theorem eqR_eq {r r' : Right} (h : eqR r r' = true) : r = r' := by
  unfold eqR at h; split at h <;> first | rfl | cases h
theorem eqSL_eq {g : AVal → AVal → Bool} (hg : ∀ a b, g a b = true → a = b) : ∀ {x y : List AVal}, eqSL g x y = true → x = y
  | [], [], _ => rfl
  | [], _ :: _, h => by cases h
  | _ :: _, [], h => by cases h
  | a :: x, b :: y, h => by
    simp only [eqSL, Bool.and_eq_true] at h
    rw [hg a b h.1, eqSL_eq hg h.2]
theorem eqS_eq : ∀ (k : Nat) {a b : AVal}, eqS k a b = true → a = b
  | 0, _, _, h => by cases h
  | k + 1, a, b, h => by
    have ih := fun a b => eqS_eq k (a := a) (b := b)
    cases a <;> cases b <;> simp only [eqS, Bool.false_eq_true] at h
    · rw [eq_of_beq h]
    · simp only [Bool.and_eq_true] at h
      rw [eq_of_beq h.1, eq_of_beq h.2]
    · rw [eq_of_beq h]
    · rw [eqSL_eq ih h]
    · rfl
    · simp only [Bool.and_eq_true] at h
      rw [Nat.eq_of_beq_eq_true h.1.1, eqR_eq h.1.2, eqSL_eq ih h.2]

def checkSp : Sp
  | [.agg [.list n xs _], wv] => bif Nat.beq n 6 then
      bif eqSL (eqS 9) xs lostO then bif eqS 9 wv world0 then some resA else bif eqS 9 wv worldV then some resE else none
      else bif eqSL (eqS 9) xs crossO then bif eqS 9 wv worldV then some resB else bif eqS 9 wv worldR then some resC else none else none
    else none
  | [.agg [.nils], wv] => bif eqS 9 wv worldV then some .nils else none
  | _ => none
theorem vr_forget {G : Gh} {n : Nat} {xs : List AVal} {r : Right} {y : Value} (h : VR G (.agg [.list n xs r]) y) : VR G (.agg [.list n xs .no]) y := by
  cases h with
  | agg hs hv =>
    cases hv with
    | cons a b =>
      cases b
      cases a with
      | list p1 p2 p3 p4 p5 p6 => exact .agg rfl (.cons (.list p1 p2 p3 p4 p5 trivial) .nil)
theorem vrs_forget {G : Gh} {n : Nat} {xs : List AVal} {r : Right} {l : List AVal} {ys : List Value} (h : VRs G (.agg [.list n xs r] :: l) ys) : VRs G (.agg [.list n xs .no] :: l) ys := by
  cases h with
  | cons a b => exact .cons (vr_forget a) b
end Go.Proofs.YtnjhbfefpcjjaaaGreat
