/- Closed arguments of merge.Merge and merge.Settle in head(). -/
import Derived.Test.YtbfmdojdemckbaaGreatZ8
import Derived.Test.YtbfmdojdemckbaaGreatZ5
/- The closed check head(): its arguments and answers; evaluations where there are choices. -/
namespace Go.Proofs.YtbfmdojdemckbaaGreat
open Go.Ag

noncomputable def QH (t : Tbl) (k : Nat → Nat) : Prog := { P := Tryz.prog, hint := hintF, spec := fun f => tblGet f t, ch := fun _ => 0, kmax := k, specH := fun f => bif Nat.beq f 25 then some sortSp else none }
theorem goodH_of {t : Tbl} (h : TblOk t) (k : Nat → Nat) : Ag.Good (QH t k) where
  mixed := mixed_ok
  spec f sp hsp args v hv G hp w xs wr hx := h _ (tblGet_mem hsp) args v hv G hp w xs wr hx
  specH f sp h args v G hp w xs wr hx hv := by
    have h : (bif Nat.beq f 25 then some sortSp else none) = some sp := h
    cases hb : Nat.beq f 25 with
    | false => rw [hb] at h; cases h
    | true =>
      have := Nat.eq_of_beq_eq_true hb
      subst this
      rw [hb] at h
      injection h with h; subst h
      exact sortSp_ok wr hx hv
  names f fn hf := by
    have hf : Tryz.prog.funcs[f]? = some fn := hf
    have := List.all_eq_true.1 names_ok fn (by
      rw [← Array.getElem?_toList] at hf
      exact List.mem_of_getElem? hf)
    simpa using this

def nthD : List Nat → Nat → Nat → Nat
  | [], _, d => d
  | a :: _, 0, _ => a
  | _ :: l, i + 1, d => nthD l i d
/-- a closed call, for one list of choices -/
noncomputable def evalH (t : Tbl) (ks c : List Nat) (n f : Nat) (args : List AVal) : Option (AVal × Nat) := ((lvl ((QH t (fun i => nthD ks i 1)).at (fun i => nthD c i 0)) n).call f args [] s0).bind fun x => (frz x.2.heap 12 x.1).bind fun u => some (u, x.2.ci)
theorem nthD_map (ch : Nat → Nat) : ∀ (n i j : Nat), i < n → nthD ((List.range' j n).map ch) i 0 = ch (j + i)
  | 0, i, j, h => by omega
  | n + 1, 0, j, _ => by simp [List.range'_succ, nthD]
  | n + 1, i + 1, j, h => by
    rw [List.range'_succ, List.map_cons]
    show nthD _ i 0 = _
    rw [nthD_map ch n i (j + 1) (by omega), show j + 1 + i = j + (i + 1) by omega]
/-- a list of choices within bounds -/
inductive Within : List Nat → List Nat → Prop
  | nil : Within [] []
  | cons {k c : Nat} {ks cs : List Nat} : c < k → Within ks cs → Within (k :: ks) (c :: cs)
theorem within_of (ch : Nat → Nat) : ∀ (ks : List Nat) (j : Nat), (∀ i, i < ks.length → ch (j + i) < nthD ks i 1) → Within ks ((List.range' j ks.length).map ch)
  | [], _, _ => .nil
  | k :: ks, j, h => by
    rw [List.length_cons, List.range'_succ, List.map_cons]
    refine .cons (h 0 (by simp)) (within_of ch ks (j + 1) fun i hi => ?_)
    have := h (i + 1) (by simpa using hi)
    rwa [show j + (i + 1) = j + 1 + i by omega] at this
theorem spec_of_evalH {t : Tbl} (ht : TblOk t) {ks : List Nat} (hk : ∀ i, 0 < nthD ks i 1) {n f m : Nat} {args : List AVal} {u : AVal} (hm : m ≤ ks.length) (h : ∀ c, Within ks c → evalH t ks c n f args = some (u, m)) {args' : List AVal} (ha : weaks args' = args) (hp : tops args' = true)
    (G : Gh) (hh : Trie AObj) (w : World) (xs : List Value) (wr : WR G hh w) (hx : VRs G args' xs) : CallsTo Tryz.prog f ⟨xs⟩ w fun y w' => ∃ G', WR G' hh w' ∧ Ext G hh w G' hh w' 0 0 ∧ VR G' u y := by
  refine spec_of_eval2 (Q := QH t (fun i => nthD ks i 1)) (n := n) (goodH_of ht _) hk hp (fun ch hi => ?_) G hh w xs wr hx
  rw [ha]
  have hw := within_of ch ks 0 (fun i _ => by rw [Nat.zero_add]; exact hi i)
  have he := h _ hw
  simp only [evalH, Option.bind_eq_some_iff, Option.some.injEq, Prod.mk.injEq] at he
  obtain ⟨⟨v, s'⟩, a, u', b, rfl, c⟩ := he
  have c : s'.ci = m := c
  exact ⟨v, s', (lvl_ch (QH t (fun i => nthD ks i 1)) n).call f args [] _ s0 v s' a ch (fun i hi => by
    rw [nthD_map ch _ i 0 (by omega), Nat.zero_add]), 12, b⟩

def eqR : Right → Right → Bool
  | .full, .full => true
  | .no, .no => true
  | _, _ => false
def eqSL (g : AVal → AVal → Bool) : List AVal → List AVal → Bool
  | [], [] => true
  | a :: x, b :: y => g a b && eqSL g x y
  | _, _ => false
def eqS : Nat → AVal → AVal → Bool
  | 0, _, _ => false
  | _ + 1, .bool a, .bool b => a == b
  | _ + 1, .int k a, .int k' b => k == k' && ieq a b
  | _ + 1, .str a, .str b => a == b
  | k + 1, .agg a, .agg b => eqSL (eqS k) a b
  | _ + 1, .nils, .nils => true
  | k + 1, .list n a r, .list m b r' => Nat.beq n m && eqR r r' && eqSL (eqS k) a b
  | _, _, _ => false
theorem eqR_eq {r r' : Right} (h : eqR r r' = true) : r = r' := by
  unfold eqR at h; split at h <;> first | rfl | cases h
theorem eqSL_eq {g : AVal → AVal → Bool} (hg : ∀ a b, g a b = true → a = b) : ∀ {x y : List AVal}, eqSL g x y = true → x = y
  | [], [], _ => rfl
  | [], _ :: _, h => by cases h
  | _ :: _, [], h => by cases h
  | a :: x, b :: y, h => by
    simp only [eqSL, Bool.and_eq_true] at h
    rw [hg a b h.1, eqSL_eq hg h.2]
theorem eqS_eq : ∀ (k : Nat) {a b : AVal}, eqS k a b = true → a = b
  | 0, _, _, h => by cases h
  | k + 1, a, b, h => by
    have ih := fun a b => eqS_eq k (a := a) (b := b)
    cases a <;> cases b <;> simp only [eqS, Bool.false_eq_true] at h
    · rw [eq_of_beq h]
    · simp only [Bool.and_eq_true] at h
      rw [eq_of_beq h.1, eq_of_beq h.2]
    · rw [eq_of_beq h]
    · rw [eqSL_eq ih h]
    · rfl
    · simp only [Bool.and_eq_true] at h
      rw [Nat.eq_of_beq_eq_true h.1.1, eqR_eq h.1.2, eqSL_eq ih h.2]

def tagsE (r : Right) : AVal := .list 2 [.agg [.str [110, 97, 109, 101], .str [69, 108, 109]]] r
def nodeO (x y : Int) (t : AVal) : AVal := .agg [.str [110, 49], .int .i64 1, .int .i64 x, .int .i64 y, .nils, t]
def node2 : AVal := .agg [.str [110, 50], .int .i64 1, .int .i64 4, .int .i64 0, .nils, .nils]
def wayO (t : AVal) : AVal := .agg [.str [119, 49], .int .i64 2, .int .i64 0, .int .i64 0, .list 1 [.str [110, 49], .str [110, 50]] .full, t]
def mapA (l : List AVal) : AVal := .agg [.list 6 l .no]
def bad (id what : Bytes) : AVal := .agg [.str id, .str what]
def kAt : Bytes := [97, 116]
def kObject : Bytes := [111, 98, 106, 101, 99, 116]
def a1 : List AVal := [mapA [nodeO 0 0 .nils], mapA [nodeO 1 0 .nils], mapA [nodeO 0 0 (tagsE .full)]]
def a2 : List AVal := [mapA [nodeO 0 0 .nils], mapA [nodeO 2 0 .nils], mapA [nodeO 1 5 .nils]]
def a3 : List AVal := [mapA [nodeO 0 0 .nils], .agg [.nils], mapA [nodeO 0 0 (tagsE .full)]]
def a4 : List AVal := [mapA [nodeO 0 0 .nils, node2, wayO .nils], mapA [nodeO 0 0 .nils], mapA [nodeO 0 0 .nils, node2, wayO (tagsE .full)]]
def r1 : AVal := .tup [mapA [nodeO 1 0 (tagsE .no)], .nils]
def r2 : AVal := .tup [mapA [nodeO 1 5 .nils], .list 2 [bad [110, 49] kAt] .no]
def r3 : AVal := .tup [mapA [nodeO 0 0 (tagsE .full)], .list 2 [bad [110, 49] kObject] .no]
def r4 : AVal := .tup [mapA [nodeO 0 0 .nils, node2, wayO (tagsE .full)], .list 2 [bad [110, 50] kObject, bad [119, 49] kObject] .no]
def HT : Tbl := (26, keysSp) :: (120, keys3Sp) :: (83, cmpSp) :: (16, osameSp) :: (13, mapSp) :: T5
theorem HT_ok : TblOk HT := .cons keysSp_ok (.cons keys3Sp_ok (.cons cmpSp_ok (.cons osameSp_ok (.cons mapSp_ok T5_ok))))
end Go.Proofs.YtbfmdojdemckbaaGreat
