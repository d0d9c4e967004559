/- The contract of lexer.classes. -/
import Derived.Test.YtbfmdojdemckbaaGreatZ1
/- lexer.classes: by evaluation. -/
namespace Go.Proofs.YtbfmdojdemckbaaGreat
open Go.Ag
abbrev Bytes := List UInt8

def letterN (b : Nat) : Bool := (Nat.ble 97 b && Nat.ble b 122) || (Nat.ble 65 b && Nat.ble b 90)
def digitN (b : Nat) : Bool := Nat.ble 48 b && Nat.ble b 57
def memN (b : Nat) : List Nat → Bool
  | [] => false
  | x :: l => Nat.beq b x || memN b l
def clsOf (b : Nat) : Nat :=
  bif letterN b then 3 else bif digitN b then 4 else bif memN b [32, 9, 10] then 1 else bif memN b [59, 44, 46, 58, 40, 41, 123, 125, 91, 93, 61, 60, 62, 47, 45] then 6
  else bif Nat.beq b 35 then 2 else bif Nat.beq b 95 then 5 else bif Nat.beq b 34 then 7 else 0
def clsCells : Nat → Nat → List AVal
  | 0, _ => []
  | k + 1, i => .int .u8 (clsOf i : Nat) :: clsCells k (i + 1)
def classesV : AVal := .agg (clsCells 256 0)
def sp156 : Sp
  | [] => some classesV
  | _ => none

def T1 : Tbl := [(241, sp322)]
theorem T1_ok : TblOk T1 := .cons sp322_ok .nil

/-- a closed call, as the kernel runs it -/
noncomputable def evalC (t : Tbl) (n f : Nat) (args : List AVal) : Option (AVal × Nat) := ((lvl (QT t) n).call f args [] s0).bind fun x => (frz x.2.heap 12 x.1).bind fun u => some (u, x.2.ci)

theorem spec_of_evalC {t : Tbl} (ht : TblOk t) {n f : Nat} {args : List AVal} {u : AVal} (h : evalC t n f args = some (u, 0)) {args' : List AVal} (ha : weaks args' = args) (hp : tops args' = true) (G : Gh) (hh : Trie AObj) (w : World) (xs : List Value) (wr : WR G hh w) (hx : VRs G args' xs) :
    CallsTo Tryz.prog f ⟨xs⟩ w fun y w' => ∃ G', WR G' hh w' ∧ Ext G hh w G' hh w' 0 0 ∧ VR G' u y := by
  simp only [evalC, Option.bind_eq_some_iff, Option.some.injEq, Prod.mk.injEq] at h
  obtain ⟨⟨v, s'⟩, h1, u', h2, rfl, h3⟩ := h
  exact spec_of_run (Q := QT t) (good_of ht) (fun _ => Nat.zero_lt_succ 1) hp ⟨n, by rw [ha]; exact h1⟩ h3 ⟨12, h2⟩ G hh w xs wr hx

theorem eval156 : evalC T1 3000 89 [] = some (classesV, 0) := by kernel_rfl
theorem sp156_ok : SpecOk Tryz.prog 89 sp156 := by
  intro args v hv G h w xs wr hx
  cases args with
  | nil =>
    injection hv with hv; subst hv
    exact spec_of_evalC T1_ok eval156 rfl rfl G h w xs wr hx
  | cons _ _ => cases hv

theorem clsCells_length : ∀ k i, (clsCells k i).length = k
  | 0, _ => rfl
  | k + 1, i => by simp [clsCells, clsCells_length k (i + 1)]
theorem clsCells_at : ∀ (k i j : Nat), j < k → ((clsCells k i).drop j).head? = some (.int .u8 (clsOf (i + j) : Nat))
  | 0, _, _, h => by omega
  | k + 1, i, 0, _ => by simp [clsCells]
  | k + 1, i, j + 1, h => by
    simp only [clsCells, List.drop_succ_cons]
    rw [clsCells_at k (i + 1) j (by omega), show i + 1 + j = i + (j + 1) by omega]
end Go.Proofs.YtbfmdojdemckbaaGreat
