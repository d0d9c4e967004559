/- The program as the evaluator takes it; codes of its functions; tables of contracts. -/
import Derived.Test.YtbfmdojdemckbaaGreatAg8
import Derived.Test.YtbfmdojdemckbaaGreatProg
import Derived.KernelRfl
import Derived.Laws.Externs
/- The program as the evaluator takes it: hints. -/
namespace Go.Proofs.YtbfmdojdemckbaaGreat
open Go.Ag
def hintL (n : Nat) : List (Nat × Nat) → Nat
  | [] => 0
  | (k, v) :: l => bif Nat.beq k n then v else hintL n l
def hintTab : List (Nat × List (Nat × Nat)) := [
(3, [(3, 1), (4, 1), (5, 1), (8, 1), (10, 1)]),
(4, [(2, 1), (3, 1), (6, 1), (8, 1), (10, 1)]),
(5, [(4, 1), (5, 1), (6, 1), (10, 1), (12, 1), (14, 1), (16, 1), (18, 1), (20, 1), (21, 1)]),
(6, [(3, 1), (4, 1), (5, 1), (8, 1), (14, 1), (16, 1)]),
(7, [(1, 1), (2, 1), (4, 1), (6, 1), (8, 1), (9, 1), (10, 1), (11, 1), (12, 1), (16, 1)]),
(8, [(3, 1), (4, 1), (5, 1)]),
(9, [(3, 1), (4, 1), (5, 1), (6, 1), (15, 1)]),
(10, [(2, 1), (3, 1)]),
(12, [(1, 1)]),
(13, [(1, 1), (5, 1)]),
(14, [(2, 1), (4, 1)]),
(15, [(3, 1), (4, 1), (7, 1), (9, 1)]),
(16, [(2, 1), (3, 1)]),
(18, [(2, 1)]),
(19, [(2, 1)]),
(20, [(8, 1), (9, 1)]),
(21, [(3, 1), (4, 1), (5, 1), (6, 1), (10, 1)]),
(22, [(2, 1), (6, 1)]),
(23, [(1, 1)]),
(30, [(2, 1), (3, 1)]),
(33, [(2, 1), (3, 1)]),
(34, [(1, 1)]),
(35, [(2, 1), (3, 1)]),
(40, [(2, 1)]),
(42, [(6, 1), (17, 1)]),
(52, [(3, 1)]),
(54, [(1, 1)]),
(55, [(2, 1)]),
(57, [(3, 1)]),
(58, [(3, 1)]),
(59, [(5, 1)]),
(63, [(1, 1)]),
(64, [(1, 1), (3, 1)]),
(67, [(0, 1)]),
(68, [(2, 1), (3, 1), (7, 1)]),
(69, [(6, 1), (10, 1), (16, 1)]),
(70, [(2, 1), (4, 1), (9, 1), (10, 1)]),
(71, [(2, 1), (10, 1), (14, 1)]),
(72, [(1, 1), (2, 1)]),
(73, [(5, 1), (11, 1), (40, 2), (120, 2)]),
(74, [(10, 1), (13, 1), (19, 1), (22, 1)]),
(75, [(7, 1), (8, 1), (9, 1), (10, 1)]),
(76, [(8, 1), (13, 1), (18, 1)]),
(78, [(11, 2)]),
(81, [(11, 2)]),
(84, [(1, 1)]),
(88, [(1, 1)]),
(89, [(0, 1), (1, 1)]),
(92, [(6, 1)]),
(93, [(1, 1)]),
(94, [(1, 1)]),
(96, [(1, 1), (5, 1), (9, 1)]),
(97, [(7, 1)]),
(98, [(3, 1)]),
(99, [(1, 1), (5, 1), (7, 1)]),
(100, [(3, 1), (4, 1), (6, 1), (7, 1), (9, 1), (10, 1)]),
(101, [(2, 1)]),
(102, [(2, 1), (7, 1), (10, 1)]),
(103, [(1, 1), (6, 1)]),
(104, [(1, 1), (3, 1), (10, 1), (13, 1), (19, 1), (21, 1), (176, 2)]),
(105, [(1, 1)]),
(106, [(1, 1), (8, 1)]),
(107, [(2, 1), (4, 1)]),
(110, [(1, 1)]),
(112, [(1, 1)]),
(118, [(4, 1), (5, 1)]),
(119, [(2, 1), (3, 1)]),
(124, [(5, 1)]),
(147, [(3, 1)]),
(148, [(3, 1)]),
(149, [(1, 1), (3, 1)]),
(150, [(3, 1), (4, 1), (11, 1)]),
(151, [(2, 1), (3, 1), (4, 1), (8, 1)]),
(152, [(2, 1), (4, 1)]),
(153, [(2, 1), (7, 1), (10, 1)]),
(154, [(1, 1), (5, 1)]),
(155, [(1, 1)]),
(156, [(1, 1), (2, 1), (4, 1), (6, 1)]),
(157, [(1, 1), (5, 1), (10, 1), (12, 1), (93, 2)]),
(159, [(2, 1), (4, 1)]),
(160, [(11, 1), (15, 1)]),
(161, [(2, 1), (7, 1)]),
(164, [(2, 1), (3, 1)]),
(165, [(1, 1), (5, 1), (7, 1), (11, 1)]),
(166, [(25, 2)]),
(169, [(1, 1), (6, 1), (8, 1)]),
(170, [(3, 1), (7, 1)]),
(171, [(3, 1)]),
(172, [(3, 1)]),
(173, [(2, 1)]),
(179, [(1, 1)]),
(184, [(4, 1)]),
(202, [(2, 1), (3, 1)]),
(203, [(4, 1)]),
(207, [(4, 1), (5, 1), (6, 1), (10, 1)]),
(208, [(4, 1), (5, 1), (6, 1), (7, 1)]),
(210, [(2, 1)]),
(211, [(7, 2)]),
(217, [(3, 1)]),
(219, [(2, 1), (3, 1)]),
(221, [(6, 1), (12, 1), (92, 2), (97, 2)]),
(222, [(2, 1), (3, 1)]),
(230, [(4, 1)]),
(232, [(7, 1)]),
(233, [(2, 1)]),
(234, [(1, 1)]),
(245, [(2, 1)]),
(250, [(3, 1)]),
(255, [(1, 1)]),
(257, [(2, 1)]),
(261, [(1, 1)]),
(262, [(1, 1)]),
(263, [(3, 1)]),
(268, [(4, 1)]),
(270, [(2, 1), (3, 1)]),
(271, [(7, 1)]),
(272, [(2, 1)]),
(273, [(2, 1), (3, 1)]),
(275, [(2, 1), (3, 1)]),
(276, [(4, 1)]),
(277, [(1, 1), (2, 1)]),
(278, [(3, 1), (4, 1), (5, 1)]),
(279, [(2, 1), (3, 1), (5, 1), (6, 1)]),
(291, [(4, 1)]),
(292, [(7, 1)]),
(293, [(1, 1), (2, 1)]),
(306, [(3, 1)]),
(320, [(2, 1), (3, 1), (4, 1)]),
(321, [(2, 1), (3, 1)]),
(322, [(2, 1), (3, 1)]),
(327, [(1, 1)]),
(328, [(1, 1)]),
(337, [(3, 1), (4, 1), (5, 1)]),
(342, [(2, 1)])]
def hintOfTab (f t : Nat) : List (Nat × List (Nat × Nat)) → Nat
  | [] => 0
  | (k, v) :: l => bif Nat.beq k f then hintL t v else hintOfTab f t l
def hintF (f : FuncId) (t : Tmp) : Nat := hintOfTab f t hintTab
/-- the program with contracts -/
noncomputable def QS (sp : FuncId → Option (List AVal → Option AVal)) : Prog := { P := Tryz.prog, hint := hintF, spec := sp, ch := fun _ => 0, kmax := fun _ => 2 }
theorem QS_P (sp : FuncId → Option (List AVal → Option AVal)) : (QS sp).P = Tryz.prog := rfl
theorem QS_hint (sp : FuncId → Option (List AVal → Option AVal)) : (QS sp).hint = hintF := rfl
theorem QS_spec (sp : FuncId → Option (List AVal → Option AVal)) : (QS sp).spec = sp := rfl
end Go.Proofs.YtbfmdojdemckbaaGreat
/- Codes of functions, facts on types (printed by gen2.py). -/
namespace Go.Proofs.YtbfmdojdemckbaaGreat
open Go.Ag
/- "planisphere/planisphereref12.Same" -/
def k10_b6 : List Nat := [0, 1, 0, 7, 15, 0, 32, 0, 224, 480, 1023, 2047]
def k10_r0 : List SOp :=
  [⟨some 2, Op.box 24 (Operand.tmp 0), .always⟩,
  ⟨some 3, Op.box 24 (Operand.tmp 1), .always⟩,
  ⟨some 4, Op.assign (Operand.const (Value.bool false)), .always⟩]
def k10_r1 : List SOp :=
  [⟨some 6, Op.fieldAddr 24 (Operand.tmp 2) 0, .always⟩,
  ⟨some 7, Op.load 22 (Operand.tmp 6), .always⟩,
  ⟨some 8, Op.call { callee := Callee.builtin Builtin.len, args := #[Operand.tmp 7], argTypes := #[22] }, .always⟩,
  ⟨some 9, Op.fieldAddr 24 (Operand.tmp 3) 0, .always⟩,
  ⟨some 10, Op.load 22 (Operand.tmp 9), .always⟩,
  ⟨some 11, Op.call { callee := Callee.builtin Builtin.len, args := #[Operand.tmp 10], argTypes := #[22] }, .always⟩,
  ⟨some 12, Op.binOp BinOp.neq 3 (Operand.tmp 8) (Operand.tmp 11) 3, .always⟩]
def k10_r2 : List SOp :=
  [⟨some 4, Op.assign (Operand.const (Value.bool false)), .always⟩]
def k10_r3 : List SOp :=
  [⟨some 5, Op.assign (Operand.const (Value.int IntKind.i64 0)), .always⟩]
def k10_r4 : List SOp :=
  [⟨some 13, Op.move (Operand.tmp 5), .always⟩,
  ⟨some 14, Op.fieldAddr 24 (Operand.tmp 2) 0, .always⟩,
  ⟨some 15, Op.load 22 (Operand.tmp 14), .always⟩,
  ⟨some 16, Op.call { callee := Callee.builtin Builtin.len, args := #[Operand.tmp 15], argTypes := #[22] }, .always⟩,
  ⟨some 17, Op.binOp BinOp.lss 3 (Operand.tmp 13) (Operand.tmp 16) 3, .always⟩]
def k10_r6 : List SOp :=
  [⟨some 20, Op.fieldAddr 24 (Operand.tmp 2) 0, .always⟩,
  ⟨some 21, Op.load 22 (Operand.tmp 20), .always⟩,
  ⟨some 22, Op.move (Operand.tmp 5), .always⟩,
  ⟨some 23, Op.indexAddr 22 (Operand.tmp 21) (Operand.tmp 22), .always⟩,
  ⟨some 24, Op.load 40 (Operand.tmp 23), .always⟩,
  ⟨some 25, Op.fieldAddr 24 (Operand.tmp 3) 0, .always⟩,
  ⟨some 26, Op.load 22 (Operand.tmp 25), .always⟩,
  ⟨some 27, Op.move (Operand.tmp 5), .always⟩,
  ⟨some 28, Op.indexAddr 22 (Operand.tmp 26) (Operand.tmp 27), .always⟩,
  ⟨some 29, Op.load 40 (Operand.tmp 28), .always⟩,
  ⟨some 30, Op.call { callee := Callee.value (Operand.func 33), args := #[Operand.tmp 24, Operand.tmp 29], argTypes := #[40, 40] }, .always⟩,
  ⟨some 31, Op.unOp UnOp.not 4 (Operand.tmp 30), .always⟩]
def k10_r7 : List SOp :=
  [⟨some 4, Op.assign (Operand.const (Value.bool false)), .always⟩]
def k10_r5 : List SOp :=
  [⟨some 18, Op.move (Operand.tmp 5), .always⟩,
  ⟨some 19, Op.binOp BinOp.add 3 (Operand.tmp 18) (Operand.const (Value.int IntKind.i64 1)) 3, .always⟩,
  ⟨some 5, Op.assign (Operand.tmp 19), .always⟩]
def k10_l0 : SC :=
  (.seq (.seq (.region k10_r4)
  (.cond (Operand.tmp 17) .skip (.exit 0)))
  (.seq (.block 1 (.seq (.draw k10_r6 k10_b6)
  (.cond (Operand.tmp 31) (.seq (.region k10_r7)
  .ret) .skip)))
  (.region k10_r5)))
def k10_r8 : List SOp :=
  [⟨some 4, Op.assign (Operand.const (Value.bool true)), .always⟩]
def k10 : SC :=
  (.seq (.region k10_r0)
  (.seq (.seq (.region k10_r1)
  (.cond (Operand.tmp 12) (.seq (.region k10_r2)
  .ret) .skip))
  (.seq (.seq (.region k10_r3)
  (.block 0 (.loop k10_l0)))
  (.seq (.region k10_r8)
  .ret))))
theorem k10_func : Tryz.prog.funcs[10]? = some Tryz.f10 := by kernel_rfl
theorem k10_code : (Tryz.f10.body).map compile = some k10 := by kernel_rfl
theorem k10_tmps : Tryz.f10.ntmps = 32 := by kernel_rfl
theorem k10_res : Tryz.f10.results.toList = [ResultVar.tmp 4] := by kernel_rfl
theorem hint_10_2 : hintF 10 2 = 1 := by kernel_rfl
theorem hint_10_3 : hintF 10 3 = 1 := by kernel_rfl
/- "planisphere/planisphereref13.Few" -/
def k22_b17 : List Nat := [0, 1, 0, 7, 15, 31, 63, 0, 128, 0, 896, 1920, 3968, 8064, 16383, 32767]
def k22_r0 : List SOp :=
  [⟨some 2, Op.box 24 (Operand.tmp 0), .always⟩,
  ⟨some 4, Op.assign (Operand.const (Value.bool false)), .always⟩]
def k22_r1 : List SOp :=
  [⟨some 9, Op.fieldAddr 24 (Operand.tmp 2) 0, .always⟩,
  ⟨some 10, Op.load 22 (Operand.tmp 9), .always⟩,
  ⟨some 11, Op.call { callee := Callee.builtin Builtin.len, args := #[Operand.tmp 10], argTypes := #[22] }, .always⟩,
  ⟨some 12, Op.move (Operand.tmp 1), .always⟩,
  ⟨some 13, Op.binOp BinOp.gtr 3 (Operand.tmp 11) (Operand.tmp 12) 3, .always⟩]
def k22_r2 : List SOp :=
  [⟨some 4, Op.assign (Operand.const (Value.bool false)), .always⟩]
def k22_r3 : List SOp :=
  [⟨some 5, Op.assign (Operand.const (Value.int IntKind.i64 0)), .always⟩]
def k22_r4 : List SOp :=
  [⟨some 14, Op.move (Operand.tmp 5), .always⟩,
  ⟨some 15, Op.fieldAddr 24 (Operand.tmp 2) 0, .always⟩,
  ⟨some 16, Op.load 22 (Operand.tmp 15), .always⟩,
  ⟨some 17, Op.call { callee := Callee.builtin Builtin.len, args := #[Operand.tmp 16], argTypes := #[22] }, .always⟩,
  ⟨some 18, Op.binOp BinOp.lss 3 (Operand.tmp 14) (Operand.tmp 17) 3, .always⟩]
def k22_r6 : List SOp :=
  [⟨some 21, Op.fieldAddr 24 (Operand.tmp 2) 0, .always⟩,
  ⟨some 22, Op.load 22 (Operand.tmp 21), .always⟩,
  ⟨some 23, Op.move (Operand.tmp 5), .always⟩,
  ⟨some 24, Op.indexAddr 22 (Operand.tmp 22) (Operand.tmp 23), .always⟩,
  ⟨some 25, Op.load 40 (Operand.tmp 24), .always⟩,
  ⟨some 6, Op.alloc 40, .always⟩,
  ⟨none, Op.store 40 (Operand.tmp 6) (Operand.tmp 25), .always⟩]
def k22_r7 : List SOp :=
  [⟨some 26, Op.fieldAddr 40 (Operand.tmp 6) 3, .always⟩,
  ⟨some 27, Op.load 37 (Operand.tmp 26), .always⟩,
  ⟨some 28, Op.call { callee := Callee.builtin Builtin.len, args := #[Operand.tmp 27], argTypes := #[37] }, .always⟩,
  ⟨some 29, Op.binOp BinOp.gtr 3 (Operand.tmp 28) (Operand.const (Value.int IntKind.i64 12)) 3, .always⟩,
  ⟨some 30, Op.move (Operand.tmp 29), .always⟩,
  ⟨some 31, Op.fieldAddr 40 (Operand.tmp 6) 4, (.when 30 false)⟩,
  ⟨some 32, Op.load 38 (Operand.tmp 31), (.when 30 false)⟩,
  ⟨some 33, Op.call { callee := Callee.builtin Builtin.len, args := #[Operand.tmp 32], argTypes := #[38] }, (.when 30 false)⟩,
  ⟨some 34, Op.binOp BinOp.gtr 3 (Operand.tmp 33) (Operand.const (Value.int IntKind.i64 20)) 3, (.when 30 false)⟩,
  ⟨some 35, Op.pick (Operand.tmp 30) (Operand.const (Value.bool true)) (Operand.tmp 34), .always⟩,
  ⟨some 36, Op.move (Operand.tmp 35), .always⟩,
  ⟨some 37, Op.fieldAddr 40 (Operand.tmp 6) 0, (.when 36 false)⟩,
  ⟨some 38, Op.load 9 (Operand.tmp 37), (.when 36 false)⟩,
  ⟨some 39, Op.call { callee := Callee.builtin Builtin.len, args := #[Operand.tmp 38], argTypes := #[9] }, (.when 36 false)⟩,
  ⟨some 40, Op.binOp BinOp.gtr 3 (Operand.tmp 39) (Operand.const (Value.int IntKind.i64 60)) 3, (.when 36 false)⟩,
  ⟨some 41, Op.pick (Operand.tmp 36) (Operand.const (Value.bool true)) (Operand.tmp 40), .always⟩]
def k22_r8 : List SOp :=
  [⟨some 4, Op.assign (Operand.const (Value.bool false)), .always⟩]
def k22_r9 : List SOp :=
  [⟨some 7, Op.assign (Operand.const (Value.int IntKind.i64 0)), .always⟩]
def k22_r10 : List SOp :=
  [⟨some 42, Op.move (Operand.tmp 7), .always⟩,
  ⟨some 43, Op.fieldAddr 40 (Operand.tmp 6) 3, .always⟩,
  ⟨some 44, Op.load 37 (Operand.tmp 43), .always⟩,
  ⟨some 45, Op.call { callee := Callee.builtin Builtin.len, args := #[Operand.tmp 44], argTypes := #[37] }, .always⟩,
  ⟨some 46, Op.binOp BinOp.lss 3 (Operand.tmp 42) (Operand.tmp 45) 3, .always⟩]
def k22_r12 : List SOp :=
  [⟨some 49, Op.fieldAddr 40 (Operand.tmp 6) 3, .always⟩,
  ⟨some 50, Op.load 37 (Operand.tmp 49), .always⟩,
  ⟨some 51, Op.move (Operand.tmp 7), .always⟩,
  ⟨some 52, Op.indexAddr 37 (Operand.tmp 50) (Operand.tmp 51), .always⟩,
  ⟨some 53, Op.load 9 (Operand.tmp 52), .always⟩,
  ⟨some 54, Op.call { callee := Callee.builtin Builtin.len, args := #[Operand.tmp 53], argTypes := #[9] }, .always⟩,
  ⟨some 55, Op.binOp BinOp.gtr 3 (Operand.tmp 54) (Operand.const (Value.int IntKind.i64 60)) 3, .always⟩]
def k22_r13 : List SOp :=
  [⟨some 4, Op.assign (Operand.const (Value.bool false)), .always⟩]
def k22_r11 : List SOp :=
  [⟨some 47, Op.move (Operand.tmp 7), .always⟩,
  ⟨some 48, Op.binOp BinOp.add 3 (Operand.tmp 47) (Operand.const (Value.int IntKind.i64 1)) 3, .always⟩,
  ⟨some 7, Op.assign (Operand.tmp 48), .always⟩]
def k22_l0 : SC :=
  (.seq (.seq (.region k22_r10)
  (.cond (Operand.tmp 46) .skip (.exit 2)))
  (.seq (.block 3 (.seq (.region k22_r12)
  (.cond (Operand.tmp 55) (.seq (.region k22_r13)
  .ret) .skip)))
  (.region k22_r11)))
def k22_r14 : List SOp :=
  [⟨some 8, Op.assign (Operand.const (Value.int IntKind.i64 0)), .always⟩]
def k22_r15 : List SOp :=
  [⟨some 56, Op.move (Operand.tmp 8), .always⟩,
  ⟨some 57, Op.fieldAddr 40 (Operand.tmp 6) 4, .always⟩,
  ⟨some 58, Op.load 38 (Operand.tmp 57), .always⟩,
  ⟨some 59, Op.call { callee := Callee.builtin Builtin.len, args := #[Operand.tmp 58], argTypes := #[38] }, .always⟩,
  ⟨some 60, Op.binOp BinOp.lss 3 (Operand.tmp 56) (Operand.tmp 59) 3, .always⟩]
def k22_r17 : List SOp :=
  [⟨some 63, Op.fieldAddr 40 (Operand.tmp 6) 4, .always⟩,
  ⟨some 64, Op.load 38 (Operand.tmp 63), .always⟩,
  ⟨some 65, Op.move (Operand.tmp 8), .always⟩,
  ⟨some 66, Op.indexAddr 38 (Operand.tmp 64) (Operand.tmp 65), .always⟩,
  ⟨some 67, Op.fieldAddr 51 (Operand.tmp 66) 0, .always⟩,
  ⟨some 68, Op.load 9 (Operand.tmp 67), .always⟩,
  ⟨some 69, Op.call { callee := Callee.builtin Builtin.len, args := #[Operand.tmp 68], argTypes := #[9] }, .always⟩,
  ⟨some 70, Op.fieldAddr 40 (Operand.tmp 6) 4, .always⟩,
  ⟨some 71, Op.load 38 (Operand.tmp 70), .always⟩,
  ⟨some 72, Op.move (Operand.tmp 8), .always⟩,
  ⟨some 73, Op.indexAddr 38 (Operand.tmp 71) (Operand.tmp 72), .always⟩,
  ⟨some 74, Op.fieldAddr 51 (Operand.tmp 73) 1, .always⟩,
  ⟨some 75, Op.load 9 (Operand.tmp 74), .always⟩,
  ⟨some 76, Op.call { callee := Callee.builtin Builtin.len, args := #[Operand.tmp 75], argTypes := #[9] }, .always⟩,
  ⟨some 77, Op.binOp BinOp.add 3 (Operand.tmp 69) (Operand.tmp 76) 3, .always⟩,
  ⟨some 78, Op.binOp BinOp.gtr 3 (Operand.tmp 77) (Operand.const (Value.int IntKind.i64 300)) 3, .always⟩]
def k22_r18 : List SOp :=
  [⟨some 4, Op.assign (Operand.const (Value.bool false)), .always⟩]
def k22_r16 : List SOp :=
  [⟨some 61, Op.move (Operand.tmp 8), .always⟩,
  ⟨some 62, Op.binOp BinOp.add 3 (Operand.tmp 61) (Operand.const (Value.int IntKind.i64 1)) 3, .always⟩,
  ⟨some 8, Op.assign (Operand.tmp 62), .always⟩]
def k22_l1 : SC :=
  (.seq (.seq (.region k22_r15)
  (.cond (Operand.tmp 60) .skip (.exit 4)))
  (.seq (.block 5 (.seq (.draw k22_r17 k22_b17)
  (.cond (Operand.tmp 78) (.seq (.region k22_r18)
  .ret) .skip)))
  (.region k22_r16)))
def k22_r5 : List SOp :=
  [⟨some 19, Op.move (Operand.tmp 5), .always⟩,
  ⟨some 20, Op.binOp BinOp.add 3 (Operand.tmp 19) (Operand.const (Value.int IntKind.i64 1)) 3, .always⟩,
  ⟨some 5, Op.assign (Operand.tmp 20), .always⟩]
def k22_l2 : SC :=
  (.seq (.seq (.region k22_r4)
  (.cond (Operand.tmp 18) .skip (.exit 0)))
  (.seq (.block 1 (.seq (.region k22_r6)
  (.seq (.seq (.region k22_r7)
  (.cond (Operand.tmp 41) (.seq (.region k22_r8)
  .ret) .skip))
  (.seq (.seq (.region k22_r9)
  (.block 2 (.loop k22_l0)))
  (.seq (.region k22_r14)
  (.block 4 (.loop k22_l1)))))))
  (.region k22_r5)))
def k22_r19 : List SOp :=
  [⟨some 4, Op.assign (Operand.const (Value.bool true)), .always⟩]
def k22 : SC :=
  (.seq (.region k22_r0)
  (.seq (.seq (.region k22_r1)
  (.cond (Operand.tmp 13) (.seq (.region k22_r2)
  .ret) .skip))
  (.seq (.seq (.region k22_r3)
  (.block 0 (.loop k22_l2)))
  (.seq (.region k22_r19)
  .ret))))
theorem k22_func : Tryz.prog.funcs[22]? = some Tryz.f22 := by kernel_rfl
theorem k22_code : (Tryz.f22.body).map compile = some k22 := by kernel_rfl
theorem k22_tmps : Tryz.f22.ntmps = 79 := by kernel_rfl
theorem k22_res : Tryz.f22.results.toList = [ResultVar.tmp 4] := by kernel_rfl
theorem hint_22_2 : hintF 22 2 = 1 := by kernel_rfl
theorem hint_22_6 : hintF 22 6 = 1 := by kernel_rfl
/- "planisphere/atlas.Valid" -/
def k13_r0 : List SOp :=
  [⟨some 1, Op.box 24 (Operand.tmp 0), .always⟩,
  ⟨some 2, Op.assign (Operand.const (Value.bool false)), .always⟩]
def k13_r1 : List SOp :=
  [⟨some 3, Op.assign (Operand.const (Value.string { data := #[] })), .always⟩]
def k13_r2 : List SOp :=
  [⟨some 6, Op.fieldAddr 24 (Operand.tmp 1) 0, .always⟩,
  ⟨some 7, Op.load 22 (Operand.tmp 6), .always⟩,
  ⟨some 8, Op.call { callee := Callee.builtin Builtin.len, args := #[Operand.tmp 7], argTypes := #[22] }, .always⟩,
  ⟨some 9, Op.move (Operand.const (Value.int IntKind.i64 0)), .always⟩]
def k13_r3 : List SOp :=
  [⟨some 10, Op.binOp BinOp.lss 3 (Operand.tmp 9) (Operand.tmp 8) 3, .always⟩]
def k13_r4 : List SOp :=
  [⟨some 11, Op.indexAddr 22 (Operand.tmp 7) (Operand.tmp 9), .always⟩,
  ⟨some 12, Op.load 40 (Operand.tmp 11), .always⟩,
  ⟨some 5, Op.alloc 40, .always⟩,
  ⟨none, Op.store 40 (Operand.tmp 5) (Operand.tmp 12), .always⟩]
def k13_r5 : List SOp :=
  [⟨some 13, Op.load 40 (Operand.tmp 5), .always⟩,
  ⟨some 14, Op.call { callee := Callee.value (Operand.func 36), args := #[Operand.tmp 13], argTypes := #[40] }, .always⟩,
  ⟨some 15, Op.unOp UnOp.not 4 (Operand.tmp 14), .always⟩,
  ⟨some 16, Op.move (Operand.tmp 15), .always⟩,
  ⟨some 17, Op.fieldAddr 40 (Operand.tmp 5) 0, (.when 16 false)⟩,
  ⟨some 18, Op.load 9 (Operand.tmp 17), (.when 16 false)⟩,
  ⟨some 19, Op.move (Operand.tmp 3), (.when 16 false)⟩,
  ⟨some 20, Op.binOp BinOp.leq 9 (Operand.tmp 18) (Operand.tmp 19) 9, (.when 16 false)⟩,
  ⟨some 21, Op.pick (Operand.tmp 16) (Operand.const (Value.bool true)) (Operand.tmp 20), .always⟩]
def k13_r6 : List SOp :=
  [⟨some 2, Op.assign (Operand.const (Value.bool false)), .always⟩]
def k13_r7 : List SOp :=
  [⟨some 22, Op.fieldAddr 40 (Operand.tmp 5) 0, .always⟩,
  ⟨some 23, Op.load 9 (Operand.tmp 22), .always⟩,
  ⟨some 3, Op.assign (Operand.tmp 23), .always⟩]
def k13_r8 : List SOp :=
  [⟨some 24, Op.binOp BinOp.add 3 (Operand.tmp 9) (Operand.const (Value.int IntKind.i64 1)) 3, .always⟩,
  ⟨some 9, Op.move (Operand.tmp 24), .always⟩]
def k13_l0 : SC :=
  (.seq (.region k13_r3)
  (.seq (.cond (Operand.tmp 10) .skip (.exit 0))
  (.seq (.block 1 (.seq (.region k13_r4)
  (.seq (.seq (.region k13_r5)
  (.cond (Operand.tmp 21) (.seq (.region k13_r6)
  .ret) .skip))
  (.region k13_r7))))
  (.region k13_r8))))
def k13_r9 : List SOp :=
  [⟨some 25, Op.fieldAddr 24 (Operand.tmp 1) 0, .always⟩,
  ⟨some 26, Op.load 22 (Operand.tmp 25), .always⟩,
  ⟨some 27, Op.call { callee := Callee.builtin Builtin.len, args := #[Operand.tmp 26], argTypes := #[22] }, .always⟩,
  ⟨some 28, Op.binOp BinOp.leq 3 (Operand.tmp 27) (Operand.const (Value.int IntKind.i64 1000000)) 3, .always⟩,
  ⟨some 2, Op.assign (Operand.tmp 28), .always⟩]
def k13 : SC :=
  (.seq (.region k13_r0)
  (.seq (.region k13_r1)
  (.seq (.seq (.region k13_r2)
  (.block 0 (.loop k13_l0)))
  (.seq (.region k13_r9)
  .ret))))
theorem k13_func : Tryz.prog.funcs[13]? = some Tryz.f13 := by kernel_rfl
theorem k13_code : (Tryz.f13.body).map compile = some k13 := by kernel_rfl
theorem k13_tmps : Tryz.f13.ntmps = 29 := by kernel_rfl
theorem k13_res : Tryz.f13.results.toList = [ResultVar.tmp 2] := by kernel_rfl
theorem hint_13_1 : hintF 13 1 = 1 := by kernel_rfl
theorem hint_13_5 : hintF 13 5 = 1 := by kernel_rfl
/- "planisphere/planisphereref11.Same" -/
def k33_b6 : List Nat := [0, 1, 0, 7, 15, 0, 32, 0, 224, 480, 1023]
def k33_b11 : List Nat := [0, 1, 0, 7, 15, 0, 32, 0, 224, 480, 1023]
def k33_r0 : List SOp :=
  [⟨some 2, Op.box 40 (Operand.tmp 0), .always⟩,
  ⟨some 3, Op.box 40 (Operand.tmp 1), .always⟩,
  ⟨some 4, Op.assign (Operand.const (Value.bool false)), .always⟩]
def k33_r1 : List SOp :=
  [⟨some 7, Op.fieldAddr 40 (Operand.tmp 2) 0, .always⟩,
  ⟨some 8, Op.load 9 (Operand.tmp 7), .always⟩,
  ⟨some 9, Op.fieldAddr 40 (Operand.tmp 3) 0, .always⟩,
  ⟨some 10, Op.load 9 (Operand.tmp 9), .always⟩,
  ⟨some 11, Op.binOp BinOp.neq 9 (Operand.tmp 8) (Operand.tmp 10) 9, .always⟩,
  ⟨some 12, Op.move (Operand.tmp 11), .always⟩,
  ⟨some 13, Op.fieldAddr 40 (Operand.tmp 2) 1, (.when 12 false)⟩,
  ⟨some 14, Op.load 3 (Operand.tmp 13), (.when 12 false)⟩,
  ⟨some 15, Op.fieldAddr 40 (Operand.tmp 3) 1, (.when 12 false)⟩,
  ⟨some 16, Op.load 3 (Operand.tmp 15), (.when 12 false)⟩,
  ⟨some 17, Op.binOp BinOp.neq 3 (Operand.tmp 14) (Operand.tmp 16) 3, (.when 12 false)⟩,
  ⟨some 18, Op.pick (Operand.tmp 12) (Operand.const (Value.bool true)) (Operand.tmp 17), .always⟩,
  ⟨some 19, Op.move (Operand.tmp 18), .always⟩,
  ⟨some 20, Op.fieldAddr 40 (Operand.tmp 2) 2, (.when 19 false)⟩,
  ⟨some 21, Op.load 36 (Operand.tmp 20), (.when 19 false)⟩,
  ⟨some 22, Op.fieldAddr 40 (Operand.tmp 3) 2, (.when 19 false)⟩,
  ⟨some 23, Op.load 36 (Operand.tmp 22), (.when 19 false)⟩,
  ⟨some 24, Op.binOp BinOp.neq 36 (Operand.tmp 21) (Operand.tmp 23) 36, (.when 19 false)⟩,
  ⟨some 25, Op.pick (Operand.tmp 19) (Operand.const (Value.bool true)) (Operand.tmp 24), .always⟩,
  ⟨some 26, Op.move (Operand.tmp 25), .always⟩,
  ⟨some 27, Op.fieldAddr 40 (Operand.tmp 2) 3, (.when 26 false)⟩,
  ⟨some 28, Op.load 37 (Operand.tmp 27), (.when 26 false)⟩,
  ⟨some 29, Op.call { callee := Callee.builtin Builtin.len, args := #[Operand.tmp 28], argTypes := #[37] }, (.when 26 false)⟩,
  ⟨some 30, Op.fieldAddr 40 (Operand.tmp 3) 3, (.when 26 false)⟩,
  ⟨some 31, Op.load 37 (Operand.tmp 30), (.when 26 false)⟩,
  ⟨some 32, Op.call { callee := Callee.builtin Builtin.len, args := #[Operand.tmp 31], argTypes := #[37] }, (.when 26 false)⟩,
  ⟨some 33, Op.binOp BinOp.neq 3 (Operand.tmp 29) (Operand.tmp 32) 3, (.when 26 false)⟩,
  ⟨some 34, Op.pick (Operand.tmp 26) (Operand.const (Value.bool true)) (Operand.tmp 33), .always⟩,
  ⟨some 35, Op.move (Operand.tmp 34), .always⟩,
  ⟨some 36, Op.fieldAddr 40 (Operand.tmp 2) 4, (.when 35 false)⟩,
  ⟨some 37, Op.load 38 (Operand.tmp 36), (.when 35 false)⟩,
  ⟨some 38, Op.call { callee := Callee.builtin Builtin.len, args := #[Operand.tmp 37], argTypes := #[38] }, (.when 35 false)⟩,
  ⟨some 39, Op.fieldAddr 40 (Operand.tmp 3) 4, (.when 35 false)⟩,
  ⟨some 40, Op.load 38 (Operand.tmp 39), (.when 35 false)⟩,
  ⟨some 41, Op.call { callee := Callee.builtin Builtin.len, args := #[Operand.tmp 40], argTypes := #[38] }, (.when 35 false)⟩,
  ⟨some 42, Op.binOp BinOp.neq 3 (Operand.tmp 38) (Operand.tmp 41) 3, (.when 35 false)⟩,
  ⟨some 43, Op.pick (Operand.tmp 35) (Operand.const (Value.bool true)) (Operand.tmp 42), .always⟩]
def k33_r2 : List SOp :=
  [⟨some 4, Op.assign (Operand.const (Value.bool false)), .always⟩]
def k33_r3 : List SOp :=
  [⟨some 5, Op.assign (Operand.const (Value.int IntKind.i64 0)), .always⟩]
def k33_r4 : List SOp :=
  [⟨some 44, Op.move (Operand.tmp 5), .always⟩,
  ⟨some 45, Op.fieldAddr 40 (Operand.tmp 2) 3, .always⟩,
  ⟨some 46, Op.load 37 (Operand.tmp 45), .always⟩,
  ⟨some 47, Op.call { callee := Callee.builtin Builtin.len, args := #[Operand.tmp 46], argTypes := #[37] }, .always⟩,
  ⟨some 48, Op.binOp BinOp.lss 3 (Operand.tmp 44) (Operand.tmp 47) 3, .always⟩]
def k33_r6 : List SOp :=
  [⟨some 51, Op.fieldAddr 40 (Operand.tmp 2) 3, .always⟩,
  ⟨some 52, Op.load 37 (Operand.tmp 51), .always⟩,
  ⟨some 53, Op.move (Operand.tmp 5), .always⟩,
  ⟨some 54, Op.indexAddr 37 (Operand.tmp 52) (Operand.tmp 53), .always⟩,
  ⟨some 55, Op.load 9 (Operand.tmp 54), .always⟩,
  ⟨some 56, Op.fieldAddr 40 (Operand.tmp 3) 3, .always⟩,
  ⟨some 57, Op.load 37 (Operand.tmp 56), .always⟩,
  ⟨some 58, Op.move (Operand.tmp 5), .always⟩,
  ⟨some 59, Op.indexAddr 37 (Operand.tmp 57) (Operand.tmp 58), .always⟩,
  ⟨some 60, Op.load 9 (Operand.tmp 59), .always⟩,
  ⟨some 61, Op.binOp BinOp.neq 9 (Operand.tmp 55) (Operand.tmp 60) 9, .always⟩]
def k33_r7 : List SOp :=
  [⟨some 4, Op.assign (Operand.const (Value.bool false)), .always⟩]
def k33_r5 : List SOp :=
  [⟨some 49, Op.move (Operand.tmp 5), .always⟩,
  ⟨some 50, Op.binOp BinOp.add 3 (Operand.tmp 49) (Operand.const (Value.int IntKind.i64 1)) 3, .always⟩,
  ⟨some 5, Op.assign (Operand.tmp 50), .always⟩]
def k33_l0 : SC :=
  (.seq (.seq (.region k33_r4)
  (.cond (Operand.tmp 48) .skip (.exit 0)))
  (.seq (.block 1 (.seq (.draw k33_r6 k33_b6)
  (.cond (Operand.tmp 61) (.seq (.region k33_r7)
  .ret) .skip)))
  (.region k33_r5)))
def k33_r8 : List SOp :=
  [⟨some 6, Op.assign (Operand.const (Value.int IntKind.i64 0)), .always⟩]
def k33_r9 : List SOp :=
  [⟨some 62, Op.move (Operand.tmp 6), .always⟩,
  ⟨some 63, Op.fieldAddr 40 (Operand.tmp 2) 4, .always⟩,
  ⟨some 64, Op.load 38 (Operand.tmp 63), .always⟩,
  ⟨some 65, Op.call { callee := Callee.builtin Builtin.len, args := #[Operand.tmp 64], argTypes := #[38] }, .always⟩,
  ⟨some 66, Op.binOp BinOp.lss 3 (Operand.tmp 62) (Operand.tmp 65) 3, .always⟩]
def k33_r11 : List SOp :=
  [⟨some 69, Op.fieldAddr 40 (Operand.tmp 2) 4, .always⟩,
  ⟨some 70, Op.load 38 (Operand.tmp 69), .always⟩,
  ⟨some 71, Op.move (Operand.tmp 6), .always⟩,
  ⟨some 72, Op.indexAddr 38 (Operand.tmp 70) (Operand.tmp 71), .always⟩,
  ⟨some 73, Op.load 51 (Operand.tmp 72), .always⟩,
  ⟨some 74, Op.fieldAddr 40 (Operand.tmp 3) 4, .always⟩,
  ⟨some 75, Op.load 38 (Operand.tmp 74), .always⟩,
  ⟨some 76, Op.move (Operand.tmp 6), .always⟩,
  ⟨some 77, Op.indexAddr 38 (Operand.tmp 75) (Operand.tmp 76), .always⟩,
  ⟨some 78, Op.load 51 (Operand.tmp 77), .always⟩,
  ⟨some 79, Op.binOp BinOp.neq 51 (Operand.tmp 73) (Operand.tmp 78) 51, .always⟩]
def k33_r12 : List SOp :=
  [⟨some 4, Op.assign (Operand.const (Value.bool false)), .always⟩]
def k33_r10 : List SOp :=
  [⟨some 67, Op.move (Operand.tmp 6), .always⟩,
  ⟨some 68, Op.binOp BinOp.add 3 (Operand.tmp 67) (Operand.const (Value.int IntKind.i64 1)) 3, .always⟩,
  ⟨some 6, Op.assign (Operand.tmp 68), .always⟩]
def k33_l1 : SC :=
  (.seq (.seq (.region k33_r9)
  (.cond (Operand.tmp 66) .skip (.exit 2)))
  (.seq (.block 3 (.seq (.draw k33_r11 k33_b11)
  (.cond (Operand.tmp 79) (.seq (.region k33_r12)
  .ret) .skip)))
  (.region k33_r10)))
def k33_r13 : List SOp :=
  [⟨some 4, Op.assign (Operand.const (Value.bool true)), .always⟩]
def k33 : SC :=
  (.seq (.region k33_r0)
  (.seq (.seq (.region k33_r1)
  (.cond (Operand.tmp 43) (.seq (.region k33_r2)
  .ret) .skip))
  (.seq (.seq (.region k33_r3)
  (.block 0 (.loop k33_l0)))
  (.seq (.seq (.region k33_r8)
  (.block 2 (.loop k33_l1)))
  (.seq (.region k33_r13)
  .ret)))))
theorem k33_func : Tryz.prog.funcs[33]? = some Tryz.f33 := by kernel_rfl
theorem k33_code : (Tryz.f33.body).map compile = some k33 := by kernel_rfl
theorem k33_tmps : Tryz.f33.ntmps = 80 := by kernel_rfl
theorem k33_res : Tryz.f33.results.toList = [ResultVar.tmp 4] := by kernel_rfl
theorem hint_33_2 : hintF 33 2 = 1 := by kernel_rfl
theorem hint_33_3 : hintF 33 3 = 1 := by kernel_rfl
/- "planisphere/object.Valid" -/
def k36_b1 : List Nat := [0, 1, 3, 7, 15, 31, 63, 127, 255, 511, 1023, 2047, 4095, 8191, 16383, 32767, 65535, 131071, 262143, 524287, 131071, 1179647, 3276799, 8388607, 16777215, 33554431, 67108863, 134217727, 268435455, 536870911, 1073741823]
def k36_r0 : List SOp :=
  [⟨some 1, Op.box 40 (Operand.tmp 0), .always⟩,
  ⟨some 2, Op.assign (Operand.const (Value.bool false)), .always⟩]
def k36_r1 : List SOp :=
  [⟨some 6, Op.fieldAddr 40 (Operand.tmp 1) 1, .always⟩,
  ⟨some 7, Op.load 3 (Operand.tmp 6), .always⟩,
  ⟨some 8, Op.call { callee := Callee.value (Operand.func 57), args := #[Operand.tmp 7], argTypes := #[3] }, .always⟩,
  ⟨some 9, Op.binOp BinOp.eql 9 (Operand.tmp 8) (Operand.const (Value.string { data := #[] })) 9, .always⟩,
  ⟨some 10, Op.move (Operand.tmp 9), .always⟩,
  ⟨some 11, Op.fieldAddr 40 (Operand.tmp 1) 0, (.when 10 false)⟩,
  ⟨some 12, Op.load 9 (Operand.tmp 11), (.when 10 false)⟩,
  ⟨some 13, Op.call { callee := Callee.value (Operand.func 58), args := #[Operand.tmp 12], argTypes := #[9] }, (.when 10 false)⟩,
  ⟨some 14, Op.unOp UnOp.not 4 (Operand.tmp 13), (.when 10 false)⟩,
  ⟨some 15, Op.pick (Operand.tmp 10) (Operand.const (Value.bool true)) (Operand.tmp 14), .always⟩,
  ⟨some 16, Op.move (Operand.tmp 15), .always⟩,
  ⟨some 17, Op.fieldAddr 40 (Operand.tmp 1) 4, (.when 16 false)⟩,
  ⟨some 18, Op.load 38 (Operand.tmp 17), (.when 16 false)⟩,
  ⟨some 19, Op.call { callee := Callee.value (Operand.func 59), args := #[Operand.tmp 18], argTypes := #[38] }, (.when 16 false)⟩,
  ⟨some 20, Op.unOp UnOp.not 4 (Operand.tmp 19), (.when 16 false)⟩,
  ⟨some 21, Op.pick (Operand.tmp 16) (Operand.const (Value.bool true)) (Operand.tmp 20), .always⟩,
  ⟨some 22, Op.move (Operand.tmp 21), .always⟩,
  ⟨some 23, Op.fieldAddr 40 (Operand.tmp 1) 3, (.when 22 false)⟩,
  ⟨some 24, Op.load 37 (Operand.tmp 23), (.when 22 false)⟩,
  ⟨some 25, Op.call { callee := Callee.builtin Builtin.len, args := #[Operand.tmp 24], argTypes := #[37] }, (.when 22 false)⟩,
  ⟨some 26, Op.fieldAddr 40 (Operand.tmp 1) 1, (.when 22 false)⟩,
  ⟨some 27, Op.load 3 (Operand.tmp 26), (.when 22 false)⟩,
  ⟨some 28, Op.call { callee := Callee.value (Operand.func 60), args := #[Operand.tmp 27], argTypes := #[3] }, (.when 22 false)⟩,
  ⟨some 29, Op.binOp BinOp.lss 3 (Operand.tmp 25) (Operand.tmp 28) 3, (.when 22 false)⟩,
  ⟨some 30, Op.pick (Operand.tmp 22) (Operand.const (Value.bool true)) (Operand.tmp 29), .always⟩,
  ⟨some 31, Op.move (Operand.tmp 30), .always⟩,
  ⟨some 32, Op.fieldAddr 40 (Operand.tmp 1) 3, (.when 31 false)⟩,
  ⟨some 33, Op.load 37 (Operand.tmp 32), (.when 31 false)⟩,
  ⟨some 34, Op.call { callee := Callee.builtin Builtin.len, args := #[Operand.tmp 33], argTypes := #[37] }, (.when 31 false)⟩,
  ⟨some 35, Op.binOp BinOp.gtr 3 (Operand.tmp 34) (Operand.const (Value.int IntKind.i64 2000)) 3, (.when 31 false)⟩,
  ⟨some 36, Op.pick (Operand.tmp 31) (Operand.const (Value.bool true)) (Operand.tmp 35), .always⟩]
def k36_r2 : List SOp :=
  [⟨some 2, Op.assign (Operand.const (Value.bool false)), .always⟩]
def k36_r3 : List SOp :=
  [⟨some 37, Op.makeMap 109 none, .always⟩,
  ⟨some 3, Op.alloc 109, .always⟩,
  ⟨none, Op.store 109 (Operand.tmp 3) (Operand.tmp 37), .always⟩]
def k36_r4 : List SOp :=
  [⟨some 4, Op.alloc 9, .always⟩,
  ⟨none, Op.store 9 (Operand.tmp 4) (Operand.const (Value.string { data := #[] })), .always⟩]
def k36_r5 : List SOp :=
  [⟨some 38, Op.makeFunc (Fn.func 61) #[] #[Operand.tmp 1, Operand.tmp 4, Operand.tmp 3], .always⟩,
  ⟨some 5, Op.assign (Operand.tmp 38), .always⟩]
def k36_r6 : List SOp :=
  [⟨some 39, Op.fieldAddr 40 (Operand.tmp 1) 3, .always⟩,
  ⟨some 40, Op.load 37 (Operand.tmp 39), .always⟩,
  ⟨some 41, Op.move (Operand.tmp 5), .always⟩,
  ⟨some 42, Op.call { callee := Callee.value (Operand.func 62), args := #[Operand.tmp 40, Operand.tmp 41], argTypes := #[37, 101] }, .always⟩]
def k36_r7 : List SOp :=
  [⟨some 2, Op.assign (Operand.const (Value.bool false)), .always⟩]
def k36_r8 : List SOp :=
  [⟨some 43, Op.fieldAddr 40 (Operand.tmp 1) 1, .always⟩,
  ⟨some 44, Op.load 3 (Operand.tmp 43), .always⟩]
def k36_r9 : List SOp :=
  [⟨some 46, Op.binOp BinOp.eql 3 (Operand.tmp 44) (Operand.const (Value.int IntKind.i64 1)) 3, .always⟩,
  ⟨some 45, Op.assign (Operand.tmp 46), .always⟩]
def k36_r10 : List SOp :=
  [⟨some 47, Op.fieldAddr 40 (Operand.tmp 1) 3, .always⟩,
  ⟨some 48, Op.load 37 (Operand.tmp 47), .always⟩,
  ⟨some 49, Op.call { callee := Callee.builtin Builtin.len, args := #[Operand.tmp 48], argTypes := #[37] }, .always⟩,
  ⟨some 50, Op.binOp BinOp.eql 3 (Operand.tmp 49) (Operand.const (Value.int IntKind.i64 0)) 3, .always⟩,
  ⟨some 51, Op.move (Operand.tmp 50), .always⟩,
  ⟨some 52, Op.fieldAddr 40 (Operand.tmp 1) 2, (.when 51 true)⟩,
  ⟨some 53, Op.load 36 (Operand.tmp 52), (.when 51 true)⟩,
  ⟨some 54, Op.call { callee := Callee.value (Operand.func 63), args := #[Operand.tmp 53], argTypes := #[36] }, (.when 51 true)⟩,
  ⟨some 55, Op.pick (Operand.tmp 51) (Operand.tmp 54) (Operand.const (Value.bool false)), .always⟩,
  ⟨some 2, Op.assign (Operand.tmp 55), .always⟩]
def k36_r11 : List SOp :=
  [⟨some 57, Op.binOp BinOp.eql 3 (Operand.tmp 44) (Operand.const (Value.int IntKind.i64 5)) 3, .always⟩,
  ⟨some 56, Op.assign (Operand.tmp 57), .always⟩]
def k36_r12 : List SOp :=
  [⟨some 58, Op.fieldAddr 40 (Operand.tmp 1) 3, .always⟩,
  ⟨some 59, Op.load 37 (Operand.tmp 58), .always⟩,
  ⟨some 60, Op.call { callee := Callee.builtin Builtin.len, args := #[Operand.tmp 59], argTypes := #[37] }, .always⟩,
  ⟨some 61, Op.binOp BinOp.eql 3 (Operand.tmp 60) (Operand.const (Value.int IntKind.i64 3)) 3, .always⟩,
  ⟨some 62, Op.move (Operand.tmp 61), .always⟩,
  ⟨some 63, Op.fieldAddr 40 (Operand.tmp 1) 2, (.when 62 true)⟩,
  ⟨some 64, Op.load 36 (Operand.tmp 63), (.when 62 true)⟩,
  ⟨some 65, Op.build 36 #[], (.when 62 true)⟩,
  ⟨some 66, Op.binOp BinOp.eql 36 (Operand.tmp 64) (Operand.tmp 65) 36, (.when 62 true)⟩,
  ⟨some 67, Op.pick (Operand.tmp 62) (Operand.tmp 66) (Operand.const (Value.bool false)), .always⟩,
  ⟨some 2, Op.assign (Operand.tmp 67), .always⟩]
def k36_r13 : List SOp :=
  [⟨some 68, Op.fieldAddr 40 (Operand.tmp 1) 2, .always⟩,
  ⟨some 69, Op.load 36 (Operand.tmp 68), .always⟩,
  ⟨some 70, Op.build 36 #[], .always⟩,
  ⟨some 71, Op.binOp BinOp.eql 36 (Operand.tmp 69) (Operand.tmp 70) 36, .always⟩,
  ⟨some 2, Op.assign (Operand.tmp 71), .always⟩]
def k36 : SC :=
  (.seq (.region k36_r0)
  (.seq (.seq (.draw k36_r1 k36_b1)
  (.cond (Operand.tmp 36) (.seq (.region k36_r2)
  .ret) .skip))
  (.seq (.region k36_r3)
  (.seq (.region k36_r4)
  (.seq (.region k36_r5)
  (.seq (.seq (.region k36_r6)
  (.cond (Operand.tmp 42) (.seq (.region k36_r7)
  .ret) .skip))
  (.seq (.seq (.region k36_r8)
  (.block 0 (.seq (.region k36_r9)
  (.cond (Operand.tmp 45) (.seq (.region k36_r10)
  .ret) (.seq (.region k36_r11)
  (.cond (Operand.tmp 56) (.seq (.region k36_r12)
  .ret) .skip))))))
  (.seq (.region k36_r13)
  .ret))))))))
theorem k36_func : Tryz.prog.funcs[36]? = some Tryz.f36 := by kernel_rfl
theorem k36_code : (Tryz.f36.body).map compile = some k36 := by kernel_rfl
theorem k36_tmps : Tryz.f36.ntmps = 72 := by kernel_rfl
theorem k36_res : Tryz.f36.results.toList = [ResultVar.tmp 2] := by kernel_rfl
theorem hint_36_1 : hintF 36 1 = 0 := by kernel_rfl
theorem hint_36_3 : hintF 36 3 = 0 := by kernel_rfl
theorem hint_36_4 : hintF 36 4 = 0 := by kernel_rfl
/- "planisphere/object.word" -/
def k57_r0 : List SOp :=
  [⟨some 2, Op.assign (Operand.const (Value.string { data := #[] })), .always⟩]
def k57_r1 : List SOp :=
  [⟨some 4, Op.build 150 #[(1, Operand.const (Value.string { data := #[110, 111, 100, 101] })), (2, Operand.const (Value.string { data := #[119, 97, 121] })), (3, Operand.const (Value.string { data := #[97, 114, 101, 97] })), (4, Operand.const (Value.string { data := #[114, 111, 117, 116, 101] })), (5, Operand.const (Value.string { data := #[116, 117, 114, 110] }))], .always⟩,
  ⟨some 3, Op.alloc 150, .always⟩,
  ⟨none, Op.store 150 (Operand.tmp 3) (Operand.tmp 4), .always⟩]
def k57_r2 : List SOp :=
  [⟨some 5, Op.move (Operand.tmp 0), .always⟩,
  ⟨some 6, Op.binOp BinOp.lss 3 (Operand.tmp 5) (Operand.const (Value.int IntKind.i64 0)) 3, .always⟩,
  ⟨some 7, Op.move (Operand.tmp 6), .always⟩,
  ⟨some 8, Op.move (Operand.tmp 0), (.when 7 false)⟩,
  ⟨some 9, Op.binOp BinOp.geq 3 (Operand.tmp 8) (Operand.const (Value.int IntKind.i64 6)) 3, (.when 7 false)⟩,
  ⟨some 10, Op.pick (Operand.tmp 7) (Operand.const (Value.bool true)) (Operand.tmp 9), .always⟩]
def k57_r3 : List SOp :=
  [⟨some 2, Op.assign (Operand.const (Value.string { data := #[] })), .always⟩]
def k57_r4 : List SOp :=
  [⟨some 11, Op.move (Operand.tmp 0), .always⟩,
  ⟨some 12, Op.indexAddr 150 (Operand.tmp 3) (Operand.tmp 11), .always⟩,
  ⟨some 13, Op.load 9 (Operand.tmp 12), .always⟩,
  ⟨some 2, Op.assign (Operand.tmp 13), .always⟩]
def k57 : SC :=
  (.seq (.region k57_r0)
  (.seq (.region k57_r1)
  (.seq (.seq (.region k57_r2)
  (.cond (Operand.tmp 10) (.seq (.region k57_r3)
  .ret) .skip))
  (.seq (.region k57_r4)
  .ret))))
theorem k57_func : Tryz.prog.funcs[57]? = some Tryz.f57 := by kernel_rfl
theorem k57_code : (Tryz.f57.body).map compile = some k57 := by kernel_rfl
theorem k57_tmps : Tryz.f57.ntmps = 14 := by kernel_rfl
theorem k57_res : Tryz.f57.results.toList = [ResultVar.tmp 2] := by kernel_rfl
theorem hint_57_3 : hintF 57 3 = 1 := by kernel_rfl
/- "planisphere/lexer.Name" -/
def k58_r0 : List SOp :=
  [⟨some 2, Op.assign (Operand.const (Value.bool false)), .always⟩]
def k58_r1 : List SOp :=
  [⟨some 6, Op.call { callee := Callee.value (Operand.func 89), args := #[], argTypes := #[] }, .always⟩,
  ⟨some 3, Op.alloc 151, .always⟩,
  ⟨none, Op.store 151 (Operand.tmp 3) (Operand.tmp 6), .always⟩]
def k58_r2 : List SOp :=
  [⟨some 7, Op.move (Operand.tmp 0), .always⟩,
  ⟨some 8, Op.call { callee := Callee.builtin Builtin.len, args := #[Operand.tmp 7], argTypes := #[9] }, .always⟩,
  ⟨some 9, Op.move (Operand.const (Value.int IntKind.i64 0)), .always⟩]
def k58_r3 : List SOp :=
  [⟨some 10, Op.binOp BinOp.lss 3 (Operand.tmp 9) (Operand.tmp 8) 3, .always⟩]
def k58_r4 : List SOp :=
  [⟨some 11, Op.move (Operand.tmp 9), .always⟩,
  ⟨some 4, Op.assign (Operand.tmp 11), .always⟩]
def k58_r5 : List SOp :=
  [⟨some 12, Op.move (Operand.tmp 0), .always⟩,
  ⟨some 13, Op.move (Operand.tmp 4), .always⟩,
  ⟨some 14, Op.index 9 (Operand.tmp 12) (Operand.tmp 13), .always⟩,
  ⟨some 15, Op.indexAddr 151 (Operand.tmp 3) (Operand.tmp 14), .always⟩,
  ⟨some 16, Op.load 5 (Operand.tmp 15), .always⟩,
  ⟨some 5, Op.assign (Operand.tmp 16), .always⟩]
def k58_r6 : List SOp :=
  [⟨some 17, Op.move (Operand.tmp 5), .always⟩,
  ⟨some 18, Op.binOp BinOp.neq 5 (Operand.tmp 17) (Operand.const (Value.int IntKind.u8 3)) 5, .always⟩,
  ⟨some 19, Op.move (Operand.tmp 18), .always⟩,
  ⟨some 20, Op.move (Operand.tmp 4), (.when 19 true)⟩,
  ⟨some 21, Op.binOp BinOp.eql 3 (Operand.tmp 20) (Operand.const (Value.int IntKind.i64 0)) 3, (.when 19 true)⟩,
  ⟨some 22, Op.move (Operand.tmp 21), (.when 19 true)⟩,
  ⟨some 23, Op.move (Operand.tmp 5), (.when 22 false)⟩,
  ⟨some 24, Op.binOp BinOp.neq 5 (Operand.tmp 23) (Operand.const (Value.int IntKind.u8 4)) 5, (.when 22 false)⟩,
  ⟨some 25, Op.move (Operand.tmp 24), (.when 22 false)⟩,
  ⟨some 26, Op.move (Operand.tmp 5), (.when 25 true)⟩,
  ⟨some 27, Op.binOp BinOp.neq 5 (Operand.tmp 26) (Operand.const (Value.int IntKind.u8 5)) 5, (.when 25 true)⟩,
  ⟨some 28, Op.pick (Operand.tmp 25) (Operand.tmp 27) (Operand.const (Value.bool false)), (.when 22 false)⟩,
  ⟨some 29, Op.pick (Operand.tmp 22) (Operand.const (Value.bool true)) (Operand.tmp 28), (.when 19 true)⟩,
  ⟨some 30, Op.pick (Operand.tmp 19) (Operand.tmp 29) (Operand.const (Value.bool false)), .always⟩]
def k58_r7 : List SOp :=
  [⟨some 2, Op.assign (Operand.const (Value.bool false)), .always⟩]
def k58_r8 : List SOp :=
  [⟨some 31, Op.binOp BinOp.add 3 (Operand.tmp 9) (Operand.const (Value.int IntKind.i64 1)) 3, .always⟩,
  ⟨some 9, Op.move (Operand.tmp 31), .always⟩]
def k58_l0 : SC :=
  (.seq (.region k58_r3)
  (.seq (.cond (Operand.tmp 10) .skip (.exit 0))
  (.seq (.block 1 (.seq (.region k58_r4)
  (.seq (.region k58_r5)
  (.seq (.region k58_r6)
  (.cond (Operand.tmp 30) (.seq (.region k58_r7)
  .ret) .skip)))))
  (.region k58_r8))))
def k58_r9 : List SOp :=
  [⟨some 32, Op.move (Operand.tmp 0), .always⟩,
  ⟨some 33, Op.binOp BinOp.neq 9 (Operand.tmp 32) (Operand.const (Value.string { data := #[] })) 9, .always⟩,
  ⟨some 34, Op.move (Operand.tmp 33), .always⟩,
  ⟨some 35, Op.move (Operand.tmp 0), (.when 34 true)⟩,
  ⟨some 36, Op.call { callee := Callee.builtin Builtin.len, args := #[Operand.tmp 35], argTypes := #[9] }, (.when 34 true)⟩,
  ⟨some 37, Op.binOp BinOp.leq 3 (Operand.tmp 36) (Operand.const (Value.int IntKind.i64 24)) 3, (.when 34 true)⟩,
  ⟨some 38, Op.pick (Operand.tmp 34) (Operand.tmp 37) (Operand.const (Value.bool false)), .always⟩,
  ⟨some 2, Op.assign (Operand.tmp 38), .always⟩]
def k58 : SC :=
  (.seq (.region k58_r0)
  (.seq (.region k58_r1)
  (.seq (.seq (.region k58_r2)
  (.block 0 (.loop k58_l0)))
  (.seq (.region k58_r9)
  .ret))))
theorem k58_func : Tryz.prog.funcs[58]? = some Tryz.f58 := by kernel_rfl
theorem k58_code : (Tryz.f58.body).map compile = some k58 := by kernel_rfl
theorem k58_tmps : Tryz.f58.ntmps = 39 := by kernel_rfl
theorem k58_res : Tryz.f58.results.toList = [ResultVar.tmp 2] := by kernel_rfl
theorem hint_58_3 : hintF 58 3 = 1 := by kernel_rfl
/- "planisphere/tag.Valid" -/
def k59_r0 : List SOp :=
  [⟨some 2, Op.assign (Operand.const (Value.bool false)), .always⟩]
def k59_r1 : List SOp :=
  [⟨some 3, Op.assign (Operand.const (Value.string { data := #[] })), .always⟩]
def k59_r2 : List SOp :=
  [⟨some 6, Op.move (Operand.tmp 0), .always⟩,
  ⟨some 7, Op.call { callee := Callee.builtin Builtin.len, args := #[Operand.tmp 6], argTypes := #[38] }, .always⟩,
  ⟨some 8, Op.move (Operand.const (Value.int IntKind.i64 0)), .always⟩]
def k59_r3 : List SOp :=
  [⟨some 9, Op.binOp BinOp.lss 3 (Operand.tmp 8) (Operand.tmp 7) 3, .always⟩]
def k59_r4 : List SOp :=
  [⟨some 10, Op.indexAddr 38 (Operand.tmp 6) (Operand.tmp 8), .always⟩,
  ⟨some 11, Op.load 51 (Operand.tmp 10), .always⟩,
  ⟨some 5, Op.alloc 51, .always⟩,
  ⟨none, Op.store 51 (Operand.tmp 5) (Operand.tmp 11), .always⟩]
def k59_r5 : List SOp :=
  [⟨some 12, Op.fieldAddr 51 (Operand.tmp 5) 0, .always⟩,
  ⟨some 13, Op.load 9 (Operand.tmp 12), .always⟩,
  ⟨some 14, Op.call { callee := Callee.value (Operand.func 58), args := #[Operand.tmp 13], argTypes := #[9] }, .always⟩,
  ⟨some 15, Op.unOp UnOp.not 4 (Operand.tmp 14), .always⟩,
  ⟨some 16, Op.move (Operand.tmp 15), .always⟩,
  ⟨some 17, Op.fieldAddr 51 (Operand.tmp 5) 0, (.when 16 false)⟩,
  ⟨some 18, Op.load 9 (Operand.tmp 17), (.when 16 false)⟩,
  ⟨some 19, Op.move (Operand.tmp 3), (.when 16 false)⟩,
  ⟨some 20, Op.binOp BinOp.leq 9 (Operand.tmp 18) (Operand.tmp 19) 9, (.when 16 false)⟩,
  ⟨some 21, Op.pick (Operand.tmp 16) (Operand.const (Value.bool true)) (Operand.tmp 20), .always⟩,
  ⟨some 22, Op.move (Operand.tmp 21), .always⟩,
  ⟨some 23, Op.fieldAddr 51 (Operand.tmp 5) 1, (.when 22 false)⟩,
  ⟨some 24, Op.load 9 (Operand.tmp 23), (.when 22 false)⟩,
  ⟨some 25, Op.binOp BinOp.eql 9 (Operand.tmp 24) (Operand.const (Value.string { data := #[] })) 9, (.when 22 false)⟩,
  ⟨some 26, Op.pick (Operand.tmp 22) (Operand.const (Value.bool true)) (Operand.tmp 25), .always⟩,
  ⟨some 27, Op.move (Operand.tmp 26), .always⟩,
  ⟨some 28, Op.fieldAddr 51 (Operand.tmp 5) 1, (.when 27 false)⟩,
  ⟨some 29, Op.load 9 (Operand.tmp 28), (.when 27 false)⟩,
  ⟨some 30, Op.call { callee := Callee.builtin Builtin.len, args := #[Operand.tmp 29], argTypes := #[9] }, (.when 27 false)⟩,
  ⟨some 31, Op.binOp BinOp.gtr 3 (Operand.tmp 30) (Operand.const (Value.int IntKind.i64 200)) 3, (.when 27 false)⟩,
  ⟨some 32, Op.pick (Operand.tmp 27) (Operand.const (Value.bool true)) (Operand.tmp 31), .always⟩]
def k59_r6 : List SOp :=
  [⟨some 2, Op.assign (Operand.const (Value.bool false)), .always⟩]
def k59_r7 : List SOp :=
  [⟨some 33, Op.fieldAddr 51 (Operand.tmp 5) 0, .always⟩,
  ⟨some 34, Op.load 9 (Operand.tmp 33), .always⟩,
  ⟨some 3, Op.assign (Operand.tmp 34), .always⟩]
def k59_r8 : List SOp :=
  [⟨some 35, Op.binOp BinOp.add 3 (Operand.tmp 8) (Operand.const (Value.int IntKind.i64 1)) 3, .always⟩,
  ⟨some 8, Op.move (Operand.tmp 35), .always⟩]
def k59_l0 : SC :=
  (.seq (.region k59_r3)
  (.seq (.cond (Operand.tmp 9) .skip (.exit 0))
  (.seq (.block 1 (.seq (.region k59_r4)
  (.seq (.seq (.region k59_r5)
  (.cond (Operand.tmp 32) (.seq (.region k59_r6)
  .ret) .skip))
  (.region k59_r7))))
  (.region k59_r8))))
def k59_r9 : List SOp :=
  [⟨some 36, Op.move (Operand.tmp 0), .always⟩,
  ⟨some 37, Op.call { callee := Callee.builtin Builtin.len, args := #[Operand.tmp 36], argTypes := #[38] }, .always⟩,
  ⟨some 38, Op.binOp BinOp.leq 3 (Operand.tmp 37) (Operand.const (Value.int IntKind.i64 60)) 3, .always⟩,
  ⟨some 2, Op.assign (Operand.tmp 38), .always⟩]
def k59 : SC :=
  (.seq (.region k59_r0)
  (.seq (.region k59_r1)
  (.seq (.seq (.region k59_r2)
  (.block 0 (.loop k59_l0)))
  (.seq (.region k59_r9)
  .ret))))
theorem k59_func : Tryz.prog.funcs[59]? = some Tryz.f59 := by kernel_rfl
theorem k59_code : (Tryz.f59.body).map compile = some k59 := by kernel_rfl
theorem k59_tmps : Tryz.f59.ntmps = 39 := by kernel_rfl
theorem k59_res : Tryz.f59.results.toList = [ResultVar.tmp 2] := by kernel_rfl
theorem hint_59_5 : hintF 59 5 = 1 := by kernel_rfl
theorem hint_59_30 : hintF 59 30 = 0 := by kernel_rfl
/- "planisphere/object.Valid$1" -/
def k61_r0 : List SOp :=
  [⟨some 5, Op.assign (Operand.const (Value.bool false)), .always⟩]
def k61_r1 : List SOp :=
  [⟨some 7, Op.fieldAddr 40 (Operand.tmp 1) 1, .always⟩,
  ⟨some 8, Op.load 3 (Operand.tmp 7), .always⟩,
  ⟨some 9, Op.binOp BinOp.eql 3 (Operand.tmp 8) (Operand.const (Value.int IntKind.i64 2)) 3, .always⟩,
  ⟨some 10, Op.move (Operand.tmp 9), .always⟩,
  ⟨some 11, Op.move (Operand.tmp 0), (.when 10 true)⟩,
  ⟨some 12, Op.load 9 (Operand.tmp 2), (.when 10 true)⟩,
  ⟨some 13, Op.binOp BinOp.eql 9 (Operand.tmp 11) (Operand.tmp 12) 9, (.when 10 true)⟩,
  ⟨some 14, Op.pick (Operand.tmp 10) (Operand.tmp 13) (Operand.const (Value.bool false)), .always⟩,
  ⟨some 15, Op.move (Operand.tmp 14), .always⟩,
  ⟨some 16, Op.fieldAddr 40 (Operand.tmp 1) 1, (.when 15 false)⟩,
  ⟨some 17, Op.load 3 (Operand.tmp 16), (.when 15 false)⟩,
  ⟨some 18, Op.binOp BinOp.eql 3 (Operand.tmp 17) (Operand.const (Value.int IntKind.i64 3)) 3, (.when 15 false)⟩,
  ⟨some 19, Op.move (Operand.tmp 18), (.when 15 false)⟩,
  ⟨some 20, Op.load 109 (Operand.tmp 3), (.when 19 true)⟩,
  ⟨some 21, Op.move (Operand.tmp 0), (.when 19 true)⟩,
  ⟨some 22, Op.lookup 109 (Operand.tmp 20) (Operand.tmp 21) false, (.when 19 true)⟩,
  ⟨some 23, Op.pick (Operand.tmp 19) (Operand.tmp 22) (Operand.const (Value.bool false)), (.when 15 false)⟩,
  ⟨some 24, Op.pick (Operand.tmp 15) (Operand.const (Value.bool true)) (Operand.tmp 23), .always⟩,
  ⟨some 6, Op.assign (Operand.tmp 24), .always⟩]
def k61_r2 : List SOp :=
  [⟨some 25, Op.load 109 (Operand.tmp 3), .always⟩,
  ⟨some 26, Op.move (Operand.tmp 0), .always⟩,
  ⟨some 27, Op.move (Operand.tmp 0), .always⟩,
  ⟨none, Op.mapUpdate 109 (Operand.tmp 25) (Operand.tmp 26) (Operand.const (Value.bool true)), .always⟩,
  ⟨none, Op.store 9 (Operand.tmp 2) (Operand.tmp 27), .always⟩]
def k61_r3 : List SOp :=
  [⟨some 28, Op.move (Operand.tmp 6), .always⟩,
  ⟨some 29, Op.move (Operand.tmp 28), .always⟩,
  ⟨some 30, Op.move (Operand.tmp 0), (.when 29 false)⟩,
  ⟨some 31, Op.call { callee := Callee.value (Operand.func 58), args := #[Operand.tmp 30], argTypes := #[9] }, (.when 29 false)⟩,
  ⟨some 32, Op.unOp UnOp.not 4 (Operand.tmp 31), (.when 29 false)⟩,
  ⟨some 33, Op.pick (Operand.tmp 29) (Operand.const (Value.bool true)) (Operand.tmp 32), .always⟩,
  ⟨some 5, Op.assign (Operand.tmp 33), .always⟩]
def k61 : SC :=
  (.seq (.region k61_r0)
  (.seq (.region k61_r1)
  (.seq (.region k61_r2)
  (.seq (.region k61_r3)
  .ret))))
theorem k61_func : Tryz.prog.funcs[61]? = some Tryz.f61 := by kernel_rfl
theorem k61_code : (Tryz.f61.body).map compile = some k61 := by kernel_rfl
theorem k61_tmps : Tryz.f61.ntmps = 34 := by kernel_rfl
theorem k61_res : Tryz.f61.results.toList = [ResultVar.tmp 5] := by kernel_rfl
/- "slices.ContainsFunc[[]string,string]" -/
def k62_r0 : List SOp :=
  [⟨some 4, Op.assign (Operand.const (Value.bool false)), .always⟩]
def k62_r1 : List SOp :=
  [⟨some 5, Op.move (Operand.tmp 0), .always⟩,
  ⟨some 6, Op.move (Operand.tmp 1), .always⟩,
  ⟨some 7, Op.call { callee := Callee.value (Operand.func 90), args := #[Operand.tmp 5, Operand.tmp 6], argTypes := #[37, 101] }, .always⟩,
  ⟨some 8, Op.binOp BinOp.geq 3 (Operand.tmp 7) (Operand.const (Value.int IntKind.i64 0)) 3, .always⟩,
  ⟨some 4, Op.assign (Operand.tmp 8), .always⟩]
def k62 : SC :=
  (.seq (.region k62_r0)
  (.seq (.region k62_r1)
  .ret))
theorem k62_func : Tryz.prog.funcs[62]? = some Tryz.f62 := by kernel_rfl
theorem k62_code : (Tryz.f62.body).map compile = some k62 := by kernel_rfl
theorem k62_tmps : Tryz.f62.ntmps = 9 := by kernel_rfl
theorem k62_res : Tryz.f62.results.toList = [ResultVar.tmp 4] := by kernel_rfl
/- "planisphere/object.on" -/
def k63_r0 : List SOp :=
  [⟨some 1, Op.box 36 (Operand.tmp 0), .always⟩,
  ⟨some 2, Op.assign (Operand.const (Value.bool false)), .always⟩]
def k63_r1 : List SOp :=
  [⟨some 3, Op.fieldAddr 36 (Operand.tmp 1) 0, .always⟩,
  ⟨some 4, Op.load 3 (Operand.tmp 3), .always⟩,
  ⟨some 5, Op.binOp BinOp.geq 3 (Operand.tmp 4) (Operand.const (Value.int IntKind.i64 0)) 3, .always⟩,
  ⟨some 6, Op.move (Operand.tmp 5), .always⟩,
  ⟨some 7, Op.fieldAddr 36 (Operand.tmp 1) 0, (.when 6 true)⟩,
  ⟨some 8, Op.load 3 (Operand.tmp 7), (.when 6 true)⟩,
  ⟨some 9, Op.binOp BinOp.lss 3 (Operand.tmp 8) (Operand.const (Value.int IntKind.i64 1048576)) 3, (.when 6 true)⟩,
  ⟨some 10, Op.pick (Operand.tmp 6) (Operand.tmp 9) (Operand.const (Value.bool false)), .always⟩,
  ⟨some 11, Op.move (Operand.tmp 10), .always⟩,
  ⟨some 12, Op.fieldAddr 36 (Operand.tmp 1) 1, (.when 11 true)⟩,
  ⟨some 13, Op.load 3 (Operand.tmp 12), (.when 11 true)⟩,
  ⟨some 14, Op.binOp BinOp.geq 3 (Operand.tmp 13) (Operand.const (Value.int IntKind.i64 0)) 3, (.when 11 true)⟩,
  ⟨some 15, Op.pick (Operand.tmp 11) (Operand.tmp 14) (Operand.const (Value.bool false)), .always⟩,
  ⟨some 16, Op.move (Operand.tmp 15), .always⟩,
  ⟨some 17, Op.fieldAddr 36 (Operand.tmp 1) 1, (.when 16 true)⟩,
  ⟨some 18, Op.load 3 (Operand.tmp 17), (.when 16 true)⟩,
  ⟨some 19, Op.binOp BinOp.lss 3 (Operand.tmp 18) (Operand.const (Value.int IntKind.i64 1048576)) 3, (.when 16 true)⟩,
  ⟨some 20, Op.pick (Operand.tmp 16) (Operand.tmp 19) (Operand.const (Value.bool false)), .always⟩,
  ⟨some 2, Op.assign (Operand.tmp 20), .always⟩]
def k63 : SC :=
  (.seq (.region k63_r0)
  (.seq (.region k63_r1)
  .ret))
theorem k63_func : Tryz.prog.funcs[63]? = some Tryz.f63 := by kernel_rfl
theorem k63_code : (Tryz.f63.body).map compile = some k63 := by kernel_rfl
theorem k63_tmps : Tryz.f63.ntmps = 21 := by kernel_rfl
theorem k63_res : Tryz.f63.results.toList = [ResultVar.tmp 2] := by kernel_rfl
theorem hint_63_1 : hintF 63 1 = 1 := by kernel_rfl
/- "slices.IndexFunc[[]string,string]" -/
def k90_r0 : List SOp :=
  [⟨some 4, Op.assign (Operand.const (Value.int IntKind.i64 0)), .always⟩]
def k90_r1 : List SOp :=
  [⟨some 6, Op.move (Operand.tmp 0), .always⟩,
  ⟨some 7, Op.call { callee := Callee.builtin Builtin.len, args := #[Operand.tmp 6], argTypes := #[37] }, .always⟩,
  ⟨some 8, Op.move (Operand.const (Value.int IntKind.i64 0)), .always⟩]
def k90_r2 : List SOp :=
  [⟨some 9, Op.binOp BinOp.lss 3 (Operand.tmp 8) (Operand.tmp 7) 3, .always⟩]
def k90_r3 : List SOp :=
  [⟨some 10, Op.move (Operand.tmp 8), .always⟩,
  ⟨some 5, Op.assign (Operand.tmp 10), .always⟩]
def k90_r4 : List SOp :=
  [⟨some 11, Op.move (Operand.tmp 1), .always⟩,
  ⟨some 12, Op.move (Operand.tmp 0), .always⟩,
  ⟨some 13, Op.move (Operand.tmp 5), .always⟩,
  ⟨some 14, Op.indexAddr 37 (Operand.tmp 12) (Operand.tmp 13), .always⟩,
  ⟨some 15, Op.load 9 (Operand.tmp 14), .always⟩,
  ⟨some 16, Op.call { callee := Callee.value (Operand.tmp 11), args := #[Operand.tmp 15], argTypes := #[9] }, .always⟩]
def k90_r5 : List SOp :=
  [⟨some 17, Op.move (Operand.tmp 5), .always⟩,
  ⟨some 4, Op.assign (Operand.tmp 17), .always⟩]
def k90_r6 : List SOp :=
  [⟨some 18, Op.binOp BinOp.add 3 (Operand.tmp 8) (Operand.const (Value.int IntKind.i64 1)) 3, .always⟩,
  ⟨some 8, Op.move (Operand.tmp 18), .always⟩]
def k90_l0 : SC :=
  (.seq (.region k90_r2)
  (.seq (.cond (Operand.tmp 9) .skip (.exit 0))
  (.seq (.block 1 (.seq (.region k90_r3)
  (.seq (.region k90_r4)
  (.cond (Operand.tmp 16) (.seq (.region k90_r5)
  .ret) .skip))))
  (.region k90_r6))))
def k90_r7 : List SOp :=
  [⟨some 4, Op.assign (Operand.const (Value.int IntKind.i64 (-1))), .always⟩]
def k90 : SC :=
  (.seq (.region k90_r0)
  (.seq (.seq (.region k90_r1)
  (.block 0 (.loop k90_l0)))
  (.seq (.region k90_r7)
  .ret)))
theorem k90_func : Tryz.prog.funcs[90]? = some Tryz.f90 := by kernel_rfl
theorem k90_code : (Tryz.f90.body).map compile = some k90 := by kernel_rfl
theorem k90_tmps : Tryz.f90.ntmps = 19 := by kernel_rfl
theorem k90_res : Tryz.f90.results.toList = [ResultVar.tmp 4] := by kernel_rfl
/- "planisphere/planisphereref12.Valid" -/
def k34_b6 : List Nat := [0, 1, 0, 7, 15, 31, 63, 127, 255, 511, 1023, 2047, 4095, 2047, 10239, 32767, 65535, 131071, 2047, 264191, 2047, 1837055, 3934207, 8128511, 16777215, 33554431, 67108863]
def k34_r0 : List SOp :=
  [⟨some 1, Op.box 24 (Operand.tmp 0), .always⟩,
  ⟨some 2, Op.assign (Operand.const (Value.bool false)), .always⟩]
def k34_r1 : List SOp :=
  [⟨some 4, Op.fieldAddr 24 (Operand.tmp 1) 0, .always⟩,
  ⟨some 5, Op.load 22 (Operand.tmp 4), .always⟩,
  ⟨some 6, Op.call { callee := Callee.builtin Builtin.len, args := #[Operand.tmp 5], argTypes := #[22] }, .always⟩,
  ⟨some 7, Op.binOp BinOp.gtr 3 (Operand.tmp 6) (Operand.const (Value.int IntKind.i64 1000000)) 3, .always⟩]
def k34_r2 : List SOp :=
  [⟨some 2, Op.assign (Operand.const (Value.bool false)), .always⟩]
def k34_r3 : List SOp :=
  [⟨some 3, Op.assign (Operand.const (Value.int IntKind.i64 0)), .always⟩]
def k34_r4 : List SOp :=
  [⟨some 8, Op.move (Operand.tmp 3), .always⟩,
  ⟨some 9, Op.fieldAddr 24 (Operand.tmp 1) 0, .always⟩,
  ⟨some 10, Op.load 22 (Operand.tmp 9), .always⟩,
  ⟨some 11, Op.call { callee := Callee.builtin Builtin.len, args := #[Operand.tmp 10], argTypes := #[22] }, .always⟩,
  ⟨some 12, Op.binOp BinOp.lss 3 (Operand.tmp 8) (Operand.tmp 11) 3, .always⟩]
def k34_r6 : List SOp :=
  [⟨some 15, Op.fieldAddr 24 (Operand.tmp 1) 0, .always⟩,
  ⟨some 16, Op.load 22 (Operand.tmp 15), .always⟩,
  ⟨some 17, Op.move (Operand.tmp 3), .always⟩,
  ⟨some 18, Op.indexAddr 22 (Operand.tmp 16) (Operand.tmp 17), .always⟩,
  ⟨some 19, Op.load 40 (Operand.tmp 18), .always⟩,
  ⟨some 20, Op.call { callee := Callee.value (Operand.func 54), args := #[Operand.tmp 19], argTypes := #[40] }, .always⟩,
  ⟨some 21, Op.unOp UnOp.not 4 (Operand.tmp 20), .always⟩,
  ⟨some 22, Op.move (Operand.tmp 21), .always⟩,
  ⟨some 23, Op.move (Operand.tmp 3), (.when 22 false)⟩,
  ⟨some 24, Op.binOp BinOp.gtr 3 (Operand.tmp 23) (Operand.const (Value.int IntKind.i64 0)) 3, (.when 22 false)⟩,
  ⟨some 25, Op.move (Operand.tmp 24), (.when 22 false)⟩,
  ⟨some 26, Op.fieldAddr 24 (Operand.tmp 1) 0, (.when 25 true)⟩,
  ⟨some 27, Op.load 22 (Operand.tmp 26), (.when 25 true)⟩,
  ⟨some 28, Op.move (Operand.tmp 3), (.when 25 true)⟩,
  ⟨some 29, Op.binOp BinOp.sub 3 (Operand.tmp 28) (Operand.const (Value.int IntKind.i64 1)) 3, (.when 25 true)⟩,
  ⟨some 30, Op.indexAddr 22 (Operand.tmp 27) (Operand.tmp 29), (.when 25 true)⟩,
  ⟨some 31, Op.fieldAddr 40 (Operand.tmp 30) 0, (.when 25 true)⟩,
  ⟨some 32, Op.load 9 (Operand.tmp 31), (.when 25 true)⟩,
  ⟨some 33, Op.fieldAddr 24 (Operand.tmp 1) 0, (.when 25 true)⟩,
  ⟨some 34, Op.load 22 (Operand.tmp 33), (.when 25 true)⟩,
  ⟨some 35, Op.move (Operand.tmp 3), (.when 25 true)⟩,
  ⟨some 36, Op.indexAddr 22 (Operand.tmp 34) (Operand.tmp 35), (.when 25 true)⟩,
  ⟨some 37, Op.fieldAddr 40 (Operand.tmp 36) 0, (.when 25 true)⟩,
  ⟨some 38, Op.load 9 (Operand.tmp 37), (.when 25 true)⟩,
  ⟨some 39, Op.binOp BinOp.geq 9 (Operand.tmp 32) (Operand.tmp 38) 9, (.when 25 true)⟩,
  ⟨some 40, Op.pick (Operand.tmp 25) (Operand.tmp 39) (Operand.const (Value.bool false)), (.when 22 false)⟩,
  ⟨some 41, Op.pick (Operand.tmp 22) (Operand.const (Value.bool true)) (Operand.tmp 40), .always⟩]
def k34_r7 : List SOp :=
  [⟨some 2, Op.assign (Operand.const (Value.bool false)), .always⟩]
def k34_r5 : List SOp :=
  [⟨some 13, Op.move (Operand.tmp 3), .always⟩,
  ⟨some 14, Op.binOp BinOp.add 3 (Operand.tmp 13) (Operand.const (Value.int IntKind.i64 1)) 3, .always⟩,
  ⟨some 3, Op.assign (Operand.tmp 14), .always⟩]
def k34_l0 : SC :=
  (.seq (.seq (.region k34_r4)
  (.cond (Operand.tmp 12) .skip (.exit 0)))
  (.seq (.block 1 (.seq (.draw k34_r6 k34_b6)
  (.cond (Operand.tmp 41) (.seq (.region k34_r7)
  .ret) .skip)))
  (.region k34_r5)))
def k34_r8 : List SOp :=
  [⟨some 2, Op.assign (Operand.const (Value.bool true)), .always⟩]
def k34 : SC :=
  (.seq (.region k34_r0)
  (.seq (.seq (.region k34_r1)
  (.cond (Operand.tmp 7) (.seq (.region k34_r2)
  .ret) .skip))
  (.seq (.seq (.region k34_r3)
  (.block 0 (.loop k34_l0)))
  (.seq (.region k34_r8)
  .ret))))
theorem k34_func : Tryz.prog.funcs[34]? = some Tryz.f34 := by kernel_rfl
theorem k34_code : (Tryz.f34.body).map compile = some k34 := by kernel_rfl
theorem k34_tmps : Tryz.f34.ntmps = 42 := by kernel_rfl
theorem k34_res : Tryz.f34.results.toList = [ResultVar.tmp 2] := by kernel_rfl
theorem hint_34_1 : hintF 34 1 = 1 := by kernel_rfl
/- "planisphere/planisphereref11.Valid" -/
def k54_r0 : List SOp :=
  [⟨some 1, Op.box 40 (Operand.tmp 0), .always⟩,
  ⟨some 2, Op.assign (Operand.const (Value.bool false)), .always⟩]
def k54_r1 : List SOp :=
  [⟨some 4, Op.fieldAddr 40 (Operand.tmp 1) 2, .always⟩,
  ⟨some 5, Op.load 36 (Operand.tmp 4), .always⟩,
  ⟨some 6, Op.call { callee := Callee.value (Operand.func 84), args := #[Operand.tmp 5], argTypes := #[36] }, .always⟩,
  ⟨some 3, Op.assign (Operand.tmp 6), .always⟩]
def k54_r2 : List SOp :=
  [⟨some 7, Op.fieldAddr 40 (Operand.tmp 1) 1, .always⟩,
  ⟨some 8, Op.load 3 (Operand.tmp 7), .always⟩,
  ⟨some 9, Op.binOp BinOp.neq 3 (Operand.tmp 8) (Operand.const (Value.int IntKind.i64 1)) 3, .always⟩]
def k54_r3 : List SOp :=
  [⟨some 10, Op.fieldAddr 40 (Operand.tmp 1) 2, .always⟩,
  ⟨some 11, Op.load 36 (Operand.tmp 10), .always⟩,
  ⟨some 12, Op.build 36 #[], .always⟩,
  ⟨some 13, Op.binOp BinOp.eql 36 (Operand.tmp 11) (Operand.tmp 12) 36, .always⟩,
  ⟨some 3, Op.assign (Operand.tmp 13), .always⟩]
def k54_r4 : List SOp :=
  [⟨some 14, Op.fieldAddr 40 (Operand.tmp 1) 0, .always⟩,
  ⟨some 15, Op.load 9 (Operand.tmp 14), .always⟩,
  ⟨some 16, Op.call { callee := Callee.value (Operand.func 85), args := #[Operand.tmp 15], argTypes := #[9] }, .always⟩,
  ⟨some 17, Op.move (Operand.tmp 16), .always⟩,
  ⟨some 18, Op.fieldAddr 40 (Operand.tmp 1) 1, (.when 17 true)⟩,
  ⟨some 19, Op.load 3 (Operand.tmp 18), (.when 17 true)⟩,
  ⟨some 20, Op.call { callee := Callee.value (Operand.func 86), args := #[Operand.tmp 19], argTypes := #[3] }, (.when 17 true)⟩,
  ⟨some 21, Op.binOp BinOp.neq 9 (Operand.tmp 20) (Operand.const (Value.string { data := #[] })) 9, (.when 17 true)⟩,
  ⟨some 22, Op.pick (Operand.tmp 17) (Operand.tmp 21) (Operand.const (Value.bool false)), .always⟩,
  ⟨some 23, Op.move (Operand.tmp 22), .always⟩,
  ⟨some 24, Op.move (Operand.tmp 3), (.when 23 true)⟩,
  ⟨some 25, Op.pick (Operand.tmp 23) (Operand.tmp 24) (Operand.const (Value.bool false)), .always⟩,
  ⟨some 26, Op.move (Operand.tmp 25), .always⟩,
  ⟨some 27, Op.fieldAddr 40 (Operand.tmp 1) 4, (.when 26 true)⟩,
  ⟨some 28, Op.load 38 (Operand.tmp 27), (.when 26 true)⟩,
  ⟨some 29, Op.call { callee := Callee.value (Operand.func 87), args := #[Operand.tmp 28], argTypes := #[38] }, (.when 26 true)⟩,
  ⟨some 30, Op.pick (Operand.tmp 26) (Operand.tmp 29) (Operand.const (Value.bool false)), .always⟩,
  ⟨some 31, Op.move (Operand.tmp 30), .always⟩,
  ⟨some 32, Op.load 40 (Operand.tmp 1), (.when 31 true)⟩,
  ⟨some 33, Op.call { callee := Callee.value (Operand.func 88), args := #[Operand.tmp 32], argTypes := #[40] }, (.when 31 true)⟩,
  ⟨some 34, Op.pick (Operand.tmp 31) (Operand.tmp 33) (Operand.const (Value.bool false)), .always⟩,
  ⟨some 2, Op.assign (Operand.tmp 34), .always⟩]
def k54 : SC :=
  (.seq (.region k54_r0)
  (.seq (.region k54_r1)
  (.seq (.seq (.region k54_r2)
  (.cond (Operand.tmp 9) (.region k54_r3) .skip))
  (.seq (.region k54_r4)
  .ret))))
theorem k54_func : Tryz.prog.funcs[54]? = some Tryz.f54 := by kernel_rfl
theorem k54_code : (Tryz.f54.body).map compile = some k54 := by kernel_rfl
theorem k54_tmps : Tryz.f54.ntmps = 35 := by kernel_rfl
theorem k54_res : Tryz.f54.results.toList = [ResultVar.tmp 2] := by kernel_rfl
theorem hint_54_1 : hintF 54 1 = 1 := by kernel_rfl
/- "planisphere/planisphereref11.On" -/
def k84_r0 : List SOp :=
  [⟨some 1, Op.box 36 (Operand.tmp 0), .always⟩,
  ⟨some 2, Op.assign (Operand.const (Value.bool false)), .always⟩]
def k84_r1 : List SOp :=
  [⟨some 3, Op.fieldAddr 36 (Operand.tmp 1) 0, .always⟩,
  ⟨some 4, Op.load 3 (Operand.tmp 3), .always⟩,
  ⟨some 5, Op.binOp BinOp.geq 3 (Operand.tmp 4) (Operand.const (Value.int IntKind.i64 0)) 3, .always⟩,
  ⟨some 6, Op.move (Operand.tmp 5), .always⟩,
  ⟨some 7, Op.fieldAddr 36 (Operand.tmp 1) 0, (.when 6 true)⟩,
  ⟨some 8, Op.load 3 (Operand.tmp 7), (.when 6 true)⟩,
  ⟨some 9, Op.binOp BinOp.lss 3 (Operand.tmp 8) (Operand.const (Value.int IntKind.i64 1048576)) 3, (.when 6 true)⟩,
  ⟨some 10, Op.pick (Operand.tmp 6) (Operand.tmp 9) (Operand.const (Value.bool false)), .always⟩,
  ⟨some 11, Op.move (Operand.tmp 10), .always⟩,
  ⟨some 12, Op.fieldAddr 36 (Operand.tmp 1) 1, (.when 11 true)⟩,
  ⟨some 13, Op.load 3 (Operand.tmp 12), (.when 11 true)⟩,
  ⟨some 14, Op.binOp BinOp.geq 3 (Operand.tmp 13) (Operand.const (Value.int IntKind.i64 0)) 3, (.when 11 true)⟩,
  ⟨some 15, Op.pick (Operand.tmp 11) (Operand.tmp 14) (Operand.const (Value.bool false)), .always⟩,
  ⟨some 16, Op.move (Operand.tmp 15), .always⟩,
  ⟨some 17, Op.fieldAddr 36 (Operand.tmp 1) 1, (.when 16 true)⟩,
  ⟨some 18, Op.load 3 (Operand.tmp 17), (.when 16 true)⟩,
  ⟨some 19, Op.binOp BinOp.lss 3 (Operand.tmp 18) (Operand.const (Value.int IntKind.i64 1048576)) 3, (.when 16 true)⟩,
  ⟨some 20, Op.pick (Operand.tmp 16) (Operand.tmp 19) (Operand.const (Value.bool false)), .always⟩,
  ⟨some 2, Op.assign (Operand.tmp 20), .always⟩]
def k84 : SC :=
  (.seq (.region k84_r0)
  (.seq (.region k84_r1)
  .ret))
theorem k84_func : Tryz.prog.funcs[84]? = some Tryz.f84 := by kernel_rfl
theorem k84_code : (Tryz.f84.body).map compile = some k84 := by kernel_rfl
theorem k84_tmps : Tryz.f84.ntmps = 21 := by kernel_rfl
theorem k84_res : Tryz.f84.results.toList = [ResultVar.tmp 2] := by kernel_rfl
theorem hint_84_1 : hintF 84 1 = 1 := by kernel_rfl
/- "planisphere/planisphereref08.Name" -/
def k85_r0 : List SOp :=
  [⟨some 2, Op.assign (Operand.const (Value.bool false)), .always⟩]
def k85_r1 : List SOp :=
  [⟨some 3, Op.assign (Operand.const (Value.int IntKind.i64 0)), .always⟩]
def k85_r2 : List SOp :=
  [⟨some 4, Op.move (Operand.tmp 3), .always⟩,
  ⟨some 5, Op.move (Operand.tmp 0), .always⟩,
  ⟨some 6, Op.call { callee := Callee.builtin Builtin.len, args := #[Operand.tmp 5], argTypes := #[9] }, .always⟩,
  ⟨some 7, Op.binOp BinOp.lss 3 (Operand.tmp 4) (Operand.tmp 6) 3, .always⟩]
def k85_r4 : List SOp :=
  [⟨some 10, Op.move (Operand.tmp 0), .always⟩,
  ⟨some 11, Op.move (Operand.tmp 3), .always⟩,
  ⟨some 12, Op.index 9 (Operand.tmp 10) (Operand.tmp 11), .always⟩,
  ⟨some 13, Op.call { callee := Callee.value (Operand.func 144), args := #[Operand.tmp 12], argTypes := #[5] }, .always⟩,
  ⟨some 14, Op.unOp UnOp.not 4 (Operand.tmp 13), .always⟩]
def k85_r5 : List SOp :=
  [⟨some 2, Op.assign (Operand.const (Value.bool false)), .always⟩]
def k85_r3 : List SOp :=
  [⟨some 8, Op.move (Operand.tmp 3), .always⟩,
  ⟨some 9, Op.binOp BinOp.add 3 (Operand.tmp 8) (Operand.const (Value.int IntKind.i64 1)) 3, .always⟩,
  ⟨some 3, Op.assign (Operand.tmp 9), .always⟩]
def k85_l0 : SC :=
  (.seq (.seq (.region k85_r2)
  (.cond (Operand.tmp 7) .skip (.exit 0)))
  (.seq (.block 1 (.seq (.region k85_r4)
  (.cond (Operand.tmp 14) (.seq (.region k85_r5)
  .ret) .skip)))
  (.region k85_r3)))
def k85_r6 : List SOp :=
  [⟨some 15, Op.move (Operand.tmp 0), .always⟩,
  ⟨some 16, Op.call { callee := Callee.builtin Builtin.len, args := #[Operand.tmp 15], argTypes := #[9] }, .always⟩,
  ⟨some 17, Op.binOp BinOp.gtr 3 (Operand.tmp 16) (Operand.const (Value.int IntKind.i64 0)) 3, .always⟩,
  ⟨some 18, Op.move (Operand.tmp 17), .always⟩,
  ⟨some 19, Op.move (Operand.tmp 0), (.when 18 true)⟩,
  ⟨some 20, Op.call { callee := Callee.builtin Builtin.len, args := #[Operand.tmp 19], argTypes := #[9] }, (.when 18 true)⟩,
  ⟨some 21, Op.binOp BinOp.leq 3 (Operand.tmp 20) (Operand.const (Value.int IntKind.i64 24)) 3, (.when 18 true)⟩,
  ⟨some 22, Op.pick (Operand.tmp 18) (Operand.tmp 21) (Operand.const (Value.bool false)), .always⟩,
  ⟨some 23, Op.move (Operand.tmp 22), .always⟩,
  ⟨some 24, Op.move (Operand.tmp 0), (.when 23 true)⟩,
  ⟨some 25, Op.index 9 (Operand.tmp 24) (Operand.const (Value.int IntKind.i64 0)), (.when 23 true)⟩,
  ⟨some 26, Op.call { callee := Callee.value (Operand.func 145), args := #[Operand.tmp 25], argTypes := #[5] }, (.when 23 true)⟩,
  ⟨some 27, Op.pick (Operand.tmp 23) (Operand.tmp 26) (Operand.const (Value.bool false)), .always⟩,
  ⟨some 2, Op.assign (Operand.tmp 27), .always⟩]
def k85 : SC :=
  (.seq (.region k85_r0)
  (.seq (.seq (.region k85_r1)
  (.block 0 (.loop k85_l0)))
  (.seq (.region k85_r6)
  .ret)))
theorem k85_func : Tryz.prog.funcs[85]? = some Tryz.f85 := by kernel_rfl
theorem k85_code : (Tryz.f85.body).map compile = some k85 := by kernel_rfl
theorem k85_tmps : Tryz.f85.ntmps = 28 := by kernel_rfl
theorem k85_res : Tryz.f85.results.toList = [ResultVar.tmp 2] := by kernel_rfl
/- "planisphere/planisphereref11.Word" -/
def k86_r0 : List SOp :=
  [⟨some 2, Op.assign (Operand.const (Value.string { data := #[] })), .always⟩]
def k86_r1 : List SOp :=
  [⟨some 4, Op.buildSlice 37 6 #[(0, Operand.const (Value.string { data := #[] })), (1, Operand.const (Value.string { data := #[110, 111, 100, 101] })), (2, Operand.const (Value.string { data := #[119, 97, 121] })), (3, Operand.const (Value.string { data := #[97, 114, 101, 97] })), (4, Operand.const (Value.string { data := #[114, 111, 117, 116, 101] })), (5, Operand.const (Value.string { data := #[116, 117, 114, 110] }))], .always⟩,
  ⟨some 3, Op.assign (Operand.tmp 4), .always⟩]
def k86_r2 : List SOp :=
  [⟨some 5, Op.move (Operand.tmp 0), .always⟩,
  ⟨some 6, Op.binOp BinOp.lss 3 (Operand.tmp 5) (Operand.const (Value.int IntKind.i64 1)) 3, .always⟩,
  ⟨some 7, Op.move (Operand.tmp 6), .always⟩,
  ⟨some 8, Op.move (Operand.tmp 0), (.when 7 false)⟩,
  ⟨some 9, Op.binOp BinOp.gtr 3 (Operand.tmp 8) (Operand.const (Value.int IntKind.i64 5)) 3, (.when 7 false)⟩,
  ⟨some 10, Op.pick (Operand.tmp 7) (Operand.const (Value.bool true)) (Operand.tmp 9), .always⟩]
def k86_r3 : List SOp :=
  [⟨some 2, Op.assign (Operand.const (Value.string { data := #[] })), .always⟩]
def k86_r4 : List SOp :=
  [⟨some 11, Op.move (Operand.tmp 3), .always⟩,
  ⟨some 12, Op.move (Operand.tmp 0), .always⟩,
  ⟨some 13, Op.indexAddr 37 (Operand.tmp 11) (Operand.tmp 12), .always⟩,
  ⟨some 14, Op.load 9 (Operand.tmp 13), .always⟩,
  ⟨some 2, Op.assign (Operand.tmp 14), .always⟩]
def k86 : SC :=
  (.seq (.region k86_r0)
  (.seq (.region k86_r1)
  (.seq (.seq (.region k86_r2)
  (.cond (Operand.tmp 10) (.seq (.region k86_r3)
  .ret) .skip))
  (.seq (.region k86_r4)
  .ret))))
theorem k86_func : Tryz.prog.funcs[86]? = some Tryz.f86 := by kernel_rfl
theorem k86_code : (Tryz.f86.body).map compile = some k86 := by kernel_rfl
theorem k86_tmps : Tryz.f86.ntmps = 15 := by kernel_rfl
theorem k86_res : Tryz.f86.results.toList = [ResultVar.tmp 2] := by kernel_rfl
theorem hint_86_4 : hintF 86 4 = 0 := by kernel_rfl
/- "planisphere/planisphereref11.Tags" -/
def k87_b6 : List Nat := [0, 0, 3, 7, 15, 31, 63, 127, 255, 255, 1023, 2047, 4095, 8191, 16383, 32767, 65535, 131071, 131071, 524287, 1048575, 2097151, 4194303, 8388607, 16777215, 33554431, 67108863, 134217727, 268435455, 536870911, 536870911, 1610612735, 4294967295, 8589934591, 17179869183, 536870911, 536870911, 103616086015, 241055039487, 515932946431, 1099511627775, 2199023255551, 4398046511103]
def k87_r0 : List SOp :=
  [⟨some 2, Op.assign (Operand.const (Value.bool false)), .always⟩]
def k87_r1 : List SOp :=
  [⟨some 4, Op.move (Operand.tmp 0), .always⟩,
  ⟨some 5, Op.call { callee := Callee.builtin Builtin.len, args := #[Operand.tmp 4], argTypes := #[38] }, .always⟩,
  ⟨some 6, Op.binOp BinOp.gtr 3 (Operand.tmp 5) (Operand.const (Value.int IntKind.i64 60)) 3, .always⟩]
def k87_r2 : List SOp :=
  [⟨some 2, Op.assign (Operand.const (Value.bool false)), .always⟩]
def k87_r3 : List SOp :=
  [⟨some 3, Op.assign (Operand.const (Value.int IntKind.i64 0)), .always⟩]
def k87_r4 : List SOp :=
  [⟨some 7, Op.move (Operand.tmp 3), .always⟩,
  ⟨some 8, Op.move (Operand.tmp 0), .always⟩,
  ⟨some 9, Op.call { callee := Callee.builtin Builtin.len, args := #[Operand.tmp 8], argTypes := #[38] }, .always⟩,
  ⟨some 10, Op.binOp BinOp.lss 3 (Operand.tmp 7) (Operand.tmp 9) 3, .always⟩]
def k87_r6 : List SOp :=
  [⟨some 13, Op.move (Operand.tmp 0), .always⟩,
  ⟨some 14, Op.move (Operand.tmp 3), .always⟩,
  ⟨some 15, Op.indexAddr 38 (Operand.tmp 13) (Operand.tmp 14), .always⟩,
  ⟨some 16, Op.fieldAddr 51 (Operand.tmp 15) 0, .always⟩,
  ⟨some 17, Op.load 9 (Operand.tmp 16), .always⟩,
  ⟨some 18, Op.call { callee := Callee.value (Operand.func 85), args := #[Operand.tmp 17], argTypes := #[9] }, .always⟩,
  ⟨some 19, Op.unOp UnOp.not 4 (Operand.tmp 18), .always⟩,
  ⟨some 20, Op.move (Operand.tmp 19), .always⟩,
  ⟨some 21, Op.move (Operand.tmp 0), (.when 20 false)⟩,
  ⟨some 22, Op.move (Operand.tmp 3), (.when 20 false)⟩,
  ⟨some 23, Op.indexAddr 38 (Operand.tmp 21) (Operand.tmp 22), (.when 20 false)⟩,
  ⟨some 24, Op.fieldAddr 51 (Operand.tmp 23) 1, (.when 20 false)⟩,
  ⟨some 25, Op.load 9 (Operand.tmp 24), (.when 20 false)⟩,
  ⟨some 26, Op.call { callee := Callee.builtin Builtin.len, args := #[Operand.tmp 25], argTypes := #[9] }, (.when 20 false)⟩,
  ⟨some 27, Op.binOp BinOp.lss 3 (Operand.tmp 26) (Operand.const (Value.int IntKind.i64 1)) 3, (.when 20 false)⟩,
  ⟨some 28, Op.pick (Operand.tmp 20) (Operand.const (Value.bool true)) (Operand.tmp 27), .always⟩,
  ⟨some 29, Op.move (Operand.tmp 28), .always⟩,
  ⟨some 30, Op.move (Operand.tmp 0), (.when 29 false)⟩,
  ⟨some 31, Op.move (Operand.tmp 3), (.when 29 false)⟩,
  ⟨some 32, Op.indexAddr 38 (Operand.tmp 30) (Operand.tmp 31), (.when 29 false)⟩,
  ⟨some 33, Op.fieldAddr 51 (Operand.tmp 32) 1, (.when 29 false)⟩,
  ⟨some 34, Op.load 9 (Operand.tmp 33), (.when 29 false)⟩,
  ⟨some 35, Op.call { callee := Callee.builtin Builtin.len, args := #[Operand.tmp 34], argTypes := #[9] }, (.when 29 false)⟩,
  ⟨some 36, Op.binOp BinOp.gtr 3 (Operand.tmp 35) (Operand.const (Value.int IntKind.i64 200)) 3, (.when 29 false)⟩,
  ⟨some 37, Op.pick (Operand.tmp 29) (Operand.const (Value.bool true)) (Operand.tmp 36), .always⟩,
  ⟨some 38, Op.move (Operand.tmp 37), .always⟩,
  ⟨some 39, Op.move (Operand.tmp 3), (.when 38 false)⟩,
  ⟨some 40, Op.binOp BinOp.gtr 3 (Operand.tmp 39) (Operand.const (Value.int IntKind.i64 0)) 3, (.when 38 false)⟩,
  ⟨some 41, Op.move (Operand.tmp 40), (.when 38 false)⟩,
  ⟨some 42, Op.move (Operand.tmp 0), (.when 41 true)⟩,
  ⟨some 43, Op.move (Operand.tmp 3), (.when 41 true)⟩,
  ⟨some 44, Op.binOp BinOp.sub 3 (Operand.tmp 43) (Operand.const (Value.int IntKind.i64 1)) 3, (.when 41 true)⟩,
  ⟨some 45, Op.indexAddr 38 (Operand.tmp 42) (Operand.tmp 44), (.when 41 true)⟩,
  ⟨some 46, Op.fieldAddr 51 (Operand.tmp 45) 0, (.when 41 true)⟩,
  ⟨some 47, Op.load 9 (Operand.tmp 46), (.when 41 true)⟩,
  ⟨some 48, Op.move (Operand.tmp 0), (.when 41 true)⟩,
  ⟨some 49, Op.move (Operand.tmp 3), (.when 41 true)⟩,
  ⟨some 50, Op.indexAddr 38 (Operand.tmp 48) (Operand.tmp 49), (.when 41 true)⟩,
  ⟨some 51, Op.fieldAddr 51 (Operand.tmp 50) 0, (.when 41 true)⟩,
  ⟨some 52, Op.load 9 (Operand.tmp 51), (.when 41 true)⟩,
  ⟨some 53, Op.binOp BinOp.geq 9 (Operand.tmp 47) (Operand.tmp 52) 9, (.when 41 true)⟩,
  ⟨some 54, Op.pick (Operand.tmp 41) (Operand.tmp 53) (Operand.const (Value.bool false)), (.when 38 false)⟩,
  ⟨some 55, Op.pick (Operand.tmp 38) (Operand.const (Value.bool true)) (Operand.tmp 54), .always⟩]
def k87_r7 : List SOp :=
  [⟨some 2, Op.assign (Operand.const (Value.bool false)), .always⟩]
def k87_r5 : List SOp :=
  [⟨some 11, Op.move (Operand.tmp 3), .always⟩,
  ⟨some 12, Op.binOp BinOp.add 3 (Operand.tmp 11) (Operand.const (Value.int IntKind.i64 1)) 3, .always⟩,
  ⟨some 3, Op.assign (Operand.tmp 12), .always⟩]
def k87_l0 : SC :=
  (.seq (.seq (.region k87_r4)
  (.cond (Operand.tmp 10) .skip (.exit 0)))
  (.seq (.block 1 (.seq (.draw k87_r6 k87_b6)
  (.cond (Operand.tmp 55) (.seq (.region k87_r7)
  .ret) .skip)))
  (.region k87_r5)))
def k87_r8 : List SOp :=
  [⟨some 2, Op.assign (Operand.const (Value.bool true)), .always⟩]
def k87 : SC :=
  (.seq (.region k87_r0)
  (.seq (.seq (.region k87_r1)
  (.cond (Operand.tmp 6) (.seq (.region k87_r2)
  .ret) .skip))
  (.seq (.seq (.region k87_r3)
  (.block 0 (.loop k87_l0)))
  (.seq (.region k87_r8)
  .ret))))
theorem k87_func : Tryz.prog.funcs[87]? = some Tryz.f87 := by kernel_rfl
theorem k87_code : (Tryz.f87.body).map compile = some k87 := by kernel_rfl
theorem k87_tmps : Tryz.f87.ntmps = 56 := by kernel_rfl
theorem k87_res : Tryz.f87.results.toList = [ResultVar.tmp 2] := by kernel_rfl
/- "planisphere/planisphereref11.refs" -/
def k88_b8 : List Nat := [0, 1, 0, 7, 15, 31, 63, 127, 255, 511, 1023, 2047, 4095, 8191, 16383, 32767, 65535, 131071, 65535, 327679, 1048575, 2097151, 65535, 4259839, 65535, 29425663, 62980095, 134217727, 268435455, 536870911, 1073741823, 2147483647, 4294967295, 8589934591, 17179869183, 34359738367, 34359738367, 103079215103, 34359738367, 515396075519, 1065151889407, 2199023255551, 4398046511103, 8796093022207]
def k88_r0 : List SOp :=
  [⟨some 1, Op.box 40 (Operand.tmp 0), .always⟩,
  ⟨some 2, Op.assign (Operand.const (Value.bool false)), .always⟩]
def k88_r1 : List SOp :=
  [⟨some 6, Op.fieldAddr 40 (Operand.tmp 1) 3, .always⟩,
  ⟨some 7, Op.load 37 (Operand.tmp 6), .always⟩,
  ⟨some 8, Op.call { callee := Callee.builtin Builtin.len, args := #[Operand.tmp 7], argTypes := #[37] }, .always⟩,
  ⟨some 3, Op.assign (Operand.tmp 8), .always⟩]
def k88_r2 : List SOp :=
  [⟨some 9, Op.move (Operand.tmp 3), .always⟩,
  ⟨some 10, Op.binOp BinOp.gtr 3 (Operand.tmp 9) (Operand.const (Value.int IntKind.i64 2000)) 3, .always⟩]
def k88_r3 : List SOp :=
  [⟨some 2, Op.assign (Operand.const (Value.bool false)), .always⟩]
def k88_r4 : List SOp :=
  [⟨some 11, Op.makeMap 109 none, .always⟩,
  ⟨some 4, Op.assign (Operand.tmp 11), .always⟩]
def k88_r5 : List SOp :=
  [⟨some 5, Op.assign (Operand.const (Value.int IntKind.i64 0)), .always⟩]
def k88_r6 : List SOp :=
  [⟨some 12, Op.move (Operand.tmp 5), .always⟩,
  ⟨some 13, Op.move (Operand.tmp 3), .always⟩,
  ⟨some 14, Op.binOp BinOp.lss 3 (Operand.tmp 12) (Operand.tmp 13) 3, .always⟩]
def k88_r8 : List SOp :=
  [⟨some 17, Op.fieldAddr 40 (Operand.tmp 1) 3, .always⟩,
  ⟨some 18, Op.load 37 (Operand.tmp 17), .always⟩,
  ⟨some 19, Op.move (Operand.tmp 5), .always⟩,
  ⟨some 20, Op.indexAddr 37 (Operand.tmp 18) (Operand.tmp 19), .always⟩,
  ⟨some 21, Op.load 9 (Operand.tmp 20), .always⟩,
  ⟨some 22, Op.call { callee := Callee.value (Operand.func 85), args := #[Operand.tmp 21], argTypes := #[9] }, .always⟩,
  ⟨some 23, Op.unOp UnOp.not 4 (Operand.tmp 22), .always⟩,
  ⟨some 24, Op.move (Operand.tmp 23), .always⟩,
  ⟨some 25, Op.fieldAddr 40 (Operand.tmp 1) 1, (.when 24 false)⟩,
  ⟨some 26, Op.load 3 (Operand.tmp 25), (.when 24 false)⟩,
  ⟨some 27, Op.binOp BinOp.eql 3 (Operand.tmp 26) (Operand.const (Value.int IntKind.i64 2)) 3, (.when 24 false)⟩,
  ⟨some 28, Op.move (Operand.tmp 27), (.when 24 false)⟩,
  ⟨some 29, Op.move (Operand.tmp 5), (.when 28 true)⟩,
  ⟨some 30, Op.binOp BinOp.gtr 3 (Operand.tmp 29) (Operand.const (Value.int IntKind.i64 0)) 3, (.when 28 true)⟩,
  ⟨some 31, Op.pick (Operand.tmp 28) (Operand.tmp 30) (Operand.const (Value.bool false)), (.when 24 false)⟩,
  ⟨some 32, Op.move (Operand.tmp 31), (.when 24 false)⟩,
  ⟨some 33, Op.fieldAddr 40 (Operand.tmp 1) 3, (.when 32 true)⟩,
  ⟨some 34, Op.load 37 (Operand.tmp 33), (.when 32 true)⟩,
  ⟨some 35, Op.move (Operand.tmp 5), (.when 32 true)⟩,
  ⟨some 36, Op.binOp BinOp.sub 3 (Operand.tmp 35) (Operand.const (Value.int IntKind.i64 1)) 3, (.when 32 true)⟩,
  ⟨some 37, Op.indexAddr 37 (Operand.tmp 34) (Operand.tmp 36), (.when 32 true)⟩,
  ⟨some 38, Op.load 9 (Operand.tmp 37), (.when 32 true)⟩,
  ⟨some 39, Op.fieldAddr 40 (Operand.tmp 1) 3, (.when 32 true)⟩,
  ⟨some 40, Op.load 37 (Operand.tmp 39), (.when 32 true)⟩,
  ⟨some 41, Op.move (Operand.tmp 5), (.when 32 true)⟩,
  ⟨some 42, Op.indexAddr 37 (Operand.tmp 40) (Operand.tmp 41), (.when 32 true)⟩,
  ⟨some 43, Op.load 9 (Operand.tmp 42), (.when 32 true)⟩,
  ⟨some 44, Op.binOp BinOp.eql 9 (Operand.tmp 38) (Operand.tmp 43) 9, (.when 32 true)⟩,
  ⟨some 45, Op.pick (Operand.tmp 32) (Operand.tmp 44) (Operand.const (Value.bool false)), (.when 24 false)⟩,
  ⟨some 46, Op.pick (Operand.tmp 24) (Operand.const (Value.bool true)) (Operand.tmp 45), .always⟩,
  ⟨some 47, Op.move (Operand.tmp 46), .always⟩,
  ⟨some 48, Op.fieldAddr 40 (Operand.tmp 1) 1, (.when 47 false)⟩,
  ⟨some 49, Op.load 3 (Operand.tmp 48), (.when 47 false)⟩,
  ⟨some 50, Op.binOp BinOp.eql 3 (Operand.tmp 49) (Operand.const (Value.int IntKind.i64 3)) 3, (.when 47 false)⟩,
  ⟨some 51, Op.move (Operand.tmp 50), (.when 47 false)⟩,
  ⟨some 52, Op.move (Operand.tmp 4), (.when 51 true)⟩,
  ⟨some 53, Op.fieldAddr 40 (Operand.tmp 1) 3, (.when 51 true)⟩,
  ⟨some 54, Op.load 37 (Operand.tmp 53), (.when 51 true)⟩,
  ⟨some 55, Op.move (Operand.tmp 5), (.when 51 true)⟩,
  ⟨some 56, Op.indexAddr 37 (Operand.tmp 54) (Operand.tmp 55), (.when 51 true)⟩,
  ⟨some 57, Op.load 9 (Operand.tmp 56), (.when 51 true)⟩,
  ⟨some 58, Op.lookup 109 (Operand.tmp 52) (Operand.tmp 57) false, (.when 51 true)⟩,
  ⟨some 59, Op.pick (Operand.tmp 51) (Operand.tmp 58) (Operand.const (Value.bool false)), (.when 47 false)⟩,
  ⟨some 60, Op.pick (Operand.tmp 47) (Operand.const (Value.bool true)) (Operand.tmp 59), .always⟩]
def k88_r9 : List SOp :=
  [⟨some 2, Op.assign (Operand.const (Value.bool false)), .always⟩]
def k88_r10 : List SOp :=
  [⟨some 61, Op.move (Operand.tmp 4), .always⟩,
  ⟨some 62, Op.fieldAddr 40 (Operand.tmp 1) 3, .always⟩,
  ⟨some 63, Op.load 37 (Operand.tmp 62), .always⟩,
  ⟨some 64, Op.move (Operand.tmp 5), .always⟩,
  ⟨some 65, Op.indexAddr 37 (Operand.tmp 63) (Operand.tmp 64), .always⟩,
  ⟨some 66, Op.load 9 (Operand.tmp 65), .always⟩,
  ⟨none, Op.mapUpdate 109 (Operand.tmp 61) (Operand.tmp 66) (Operand.const (Value.bool true)), .always⟩]
def k88_r7 : List SOp :=
  [⟨some 15, Op.move (Operand.tmp 5), .always⟩,
  ⟨some 16, Op.binOp BinOp.add 3 (Operand.tmp 15) (Operand.const (Value.int IntKind.i64 1)) 3, .always⟩,
  ⟨some 5, Op.assign (Operand.tmp 16), .always⟩]
def k88_l0 : SC :=
  (.seq (.seq (.region k88_r6)
  (.cond (Operand.tmp 14) .skip (.exit 0)))
  (.seq (.block 1 (.seq (.seq (.draw k88_r8 k88_b8)
  (.cond (Operand.tmp 60) (.seq (.region k88_r9)
  .ret) .skip))
  (.region k88_r10)))
  (.region k88_r7)))
def k88_r11 : List SOp :=
  [⟨some 67, Op.fieldAddr 40 (Operand.tmp 1) 1, .always⟩,
  ⟨some 68, Op.load 3 (Operand.tmp 67), .always⟩]
def k88_r12 : List SOp :=
  [⟨some 70, Op.binOp BinOp.eql 3 (Operand.tmp 68) (Operand.const (Value.int IntKind.i64 1)) 3, .always⟩,
  ⟨some 69, Op.assign (Operand.tmp 70), .always⟩]
def k88_r13 : List SOp :=
  [⟨some 71, Op.move (Operand.tmp 3), .always⟩,
  ⟨some 72, Op.binOp BinOp.eql 3 (Operand.tmp 71) (Operand.const (Value.int IntKind.i64 0)) 3, .always⟩,
  ⟨some 2, Op.assign (Operand.tmp 72), .always⟩]
def k88_r14 : List SOp :=
  [⟨some 74, Op.binOp BinOp.eql 3 (Operand.tmp 68) (Operand.const (Value.int IntKind.i64 2)) 3, .always⟩,
  ⟨some 73, Op.assign (Operand.tmp 74), .always⟩]
def k88_r15 : List SOp :=
  [⟨some 75, Op.move (Operand.tmp 3), .always⟩,
  ⟨some 76, Op.binOp BinOp.geq 3 (Operand.tmp 75) (Operand.const (Value.int IntKind.i64 2)) 3, .always⟩,
  ⟨some 2, Op.assign (Operand.tmp 76), .always⟩]
def k88_r16 : List SOp :=
  [⟨some 78, Op.binOp BinOp.eql 3 (Operand.tmp 68) (Operand.const (Value.int IntKind.i64 3)) 3, .always⟩,
  ⟨some 77, Op.assign (Operand.tmp 78), .always⟩]
def k88_r17 : List SOp :=
  [⟨some 79, Op.move (Operand.tmp 3), .always⟩,
  ⟨some 80, Op.binOp BinOp.geq 3 (Operand.tmp 79) (Operand.const (Value.int IntKind.i64 3)) 3, .always⟩,
  ⟨some 2, Op.assign (Operand.tmp 80), .always⟩]
def k88_r18 : List SOp :=
  [⟨some 82, Op.binOp BinOp.eql 3 (Operand.tmp 68) (Operand.const (Value.int IntKind.i64 4)) 3, .always⟩,
  ⟨some 81, Op.assign (Operand.tmp 82), .always⟩]
def k88_r19 : List SOp :=
  [⟨some 83, Op.move (Operand.tmp 3), .always⟩,
  ⟨some 84, Op.binOp BinOp.geq 3 (Operand.tmp 83) (Operand.const (Value.int IntKind.i64 1)) 3, .always⟩,
  ⟨some 2, Op.assign (Operand.tmp 84), .always⟩]
def k88_r20 : List SOp :=
  [⟨some 85, Op.move (Operand.tmp 3), .always⟩,
  ⟨some 86, Op.binOp BinOp.eql 3 (Operand.tmp 85) (Operand.const (Value.int IntKind.i64 3)) 3, .always⟩,
  ⟨some 2, Op.assign (Operand.tmp 86), .always⟩]
def k88 : SC :=
  (.seq (.region k88_r0)
  (.seq (.region k88_r1)
  (.seq (.seq (.region k88_r2)
  (.cond (Operand.tmp 10) (.seq (.region k88_r3)
  .ret) .skip))
  (.seq (.region k88_r4)
  (.seq (.seq (.region k88_r5)
  (.block 0 (.loop k88_l0)))
  (.seq (.seq (.region k88_r11)
  (.block 2 (.seq (.region k88_r12)
  (.cond (Operand.tmp 69) (.seq (.region k88_r13)
  .ret) (.seq (.region k88_r14)
  (.cond (Operand.tmp 73) (.seq (.region k88_r15)
  .ret) (.seq (.region k88_r16)
  (.cond (Operand.tmp 77) (.seq (.region k88_r17)
  .ret) (.seq (.region k88_r18)
  (.cond (Operand.tmp 81) (.seq (.region k88_r19)
  .ret) .skip))))))))))
  (.seq (.region k88_r20)
  .ret)))))))
theorem k88_func : Tryz.prog.funcs[88]? = some Tryz.f88 := by kernel_rfl
theorem k88_code : (Tryz.f88.body).map compile = some k88 := by kernel_rfl
theorem k88_tmps : Tryz.f88.ntmps = 87 := by kernel_rfl
theorem k88_res : Tryz.f88.results.toList = [ResultVar.tmp 2] := by kernel_rfl
theorem hint_88_1 : hintF 88 1 = 1 := by kernel_rfl
/- "planisphere/planisphereref21.refs" -/
def k35_b4 : List Nat := [0, 0, 2, 0, 14, 30, 63, 127]
def k35_b7 : List Nat := [0, 1, 0, 7, 15, 31, 0, 64, 0, 448, 1023]
def k35_r0 : List SOp :=
  [⟨some 2, Op.box 24 (Operand.tmp 0), .always⟩,
  ⟨some 3, Op.box 40 (Operand.tmp 1), .always⟩,
  ⟨some 4, Op.assign (Operand.const (Value.int IntKind.i64 0)), .always⟩]
def k35_r1 : List SOp :=
  [⟨some 5, Op.assign (Operand.const (Value.int IntKind.i64 0)), .always⟩]
def k35_r2 : List SOp :=
  [⟨some 7, Op.move (Operand.tmp 5), .always⟩,
  ⟨some 8, Op.fieldAddr 40 (Operand.tmp 3) 3, .always⟩,
  ⟨some 9, Op.load 37 (Operand.tmp 8), .always⟩,
  ⟨some 10, Op.call { callee := Callee.builtin Builtin.len, args := #[Operand.tmp 9], argTypes := #[37] }, .always⟩,
  ⟨some 11, Op.binOp BinOp.lss 3 (Operand.tmp 7) (Operand.tmp 10) 3, .always⟩]
def k35_r4 : List SOp :=
  [⟨some 14, Op.load 24 (Operand.tmp 2), .always⟩,
  ⟨some 15, Op.fieldAddr 40 (Operand.tmp 3) 3, .always⟩,
  ⟨some 16, Op.load 37 (Operand.tmp 15), .always⟩,
  ⟨some 17, Op.move (Operand.tmp 5), .always⟩,
  ⟨some 18, Op.indexAddr 37 (Operand.tmp 16) (Operand.tmp 17), .always⟩,
  ⟨some 19, Op.load 9 (Operand.tmp 18), .always⟩,
  ⟨some 20, Op.call { callee := Callee.value (Operand.func 55), args := #[Operand.tmp 14, Operand.tmp 19], argTypes := #[24, 9] }, .always⟩,
  ⟨some 6, Op.assign (Operand.tmp 20), .always⟩]
def k35_r5 : List SOp :=
  [⟨some 21, Op.move (Operand.tmp 6), .always⟩,
  ⟨some 22, Op.binOp BinOp.lss 3 (Operand.tmp 21) (Operand.const (Value.int IntKind.i64 0)) 3, .always⟩]
def k35_r6 : List SOp :=
  [⟨some 4, Op.assign (Operand.const (Value.int IntKind.i64 14)), .always⟩]
def k35_r7 : List SOp :=
  [⟨some 23, Op.fieldAddr 24 (Operand.tmp 2) 0, .always⟩,
  ⟨some 24, Op.load 22 (Operand.tmp 23), .always⟩,
  ⟨some 25, Op.move (Operand.tmp 6), .always⟩,
  ⟨some 26, Op.indexAddr 22 (Operand.tmp 24) (Operand.tmp 25), .always⟩,
  ⟨some 27, Op.fieldAddr 40 (Operand.tmp 26) 1, .always⟩,
  ⟨some 28, Op.load 3 (Operand.tmp 27), .always⟩,
  ⟨some 29, Op.fieldAddr 40 (Operand.tmp 3) 1, .always⟩,
  ⟨some 30, Op.load 3 (Operand.tmp 29), .always⟩,
  ⟨some 31, Op.move (Operand.tmp 5), .always⟩,
  ⟨some 32, Op.call { callee := Callee.value (Operand.func 56), args := #[Operand.tmp 30, Operand.tmp 31], argTypes := #[3, 3] }, .always⟩,
  ⟨some 33, Op.binOp BinOp.neq 3 (Operand.tmp 28) (Operand.tmp 32) 3, .always⟩]
def k35_r8 : List SOp :=
  [⟨some 4, Op.assign (Operand.const (Value.int IntKind.i64 13)), .always⟩]
def k35_r3 : List SOp :=
  [⟨some 12, Op.move (Operand.tmp 5), .always⟩,
  ⟨some 13, Op.binOp BinOp.add 3 (Operand.tmp 12) (Operand.const (Value.int IntKind.i64 1)) 3, .always⟩,
  ⟨some 5, Op.assign (Operand.tmp 13), .always⟩]
def k35_l0 : SC :=
  (.seq (.seq (.region k35_r2)
  (.cond (Operand.tmp 11) .skip (.exit 0)))
  (.seq (.block 1 (.seq (.draw k35_r4 k35_b4)
  (.seq (.seq (.region k35_r5)
  (.cond (Operand.tmp 22) (.seq (.region k35_r6)
  .ret) .skip))
  (.seq (.draw k35_r7 k35_b7)
  (.cond (Operand.tmp 33) (.seq (.region k35_r8)
  .ret) .skip)))))
  (.region k35_r3)))
def k35_r9 : List SOp :=
  [⟨some 4, Op.assign (Operand.const (Value.int IntKind.i64 0)), .always⟩]
def k35 : SC :=
  (.seq (.region k35_r0)
  (.seq (.seq (.region k35_r1)
  (.block 0 (.loop k35_l0)))
  (.seq (.region k35_r9)
  .ret)))
theorem k35_func : Tryz.prog.funcs[35]? = some Tryz.f35 := by kernel_rfl
theorem k35_code : (Tryz.f35.body).map compile = some k35 := by kernel_rfl
theorem k35_tmps : Tryz.f35.ntmps = 34 := by kernel_rfl
theorem k35_res : Tryz.f35.results.toList = [ResultVar.tmp 4] := by kernel_rfl
theorem hint_35_2 : hintF 35 2 = 1 := by kernel_rfl
theorem hint_35_3 : hintF 35 3 = 1 := by kernel_rfl
/- "planisphere/planisphereref21.Closed" -/
def k12_b6 : List Nat := [0, 0, 2, 0, 14, 30, 63, 127]
def k12_r0 : List SOp :=
  [⟨some 1, Op.box 24 (Operand.tmp 0), .always⟩,
  ⟨some 2, Op.assign (Operand.const (Value.bool false)), .always⟩]
def k12_r1 : List SOp :=
  [⟨some 4, Op.load 24 (Operand.tmp 1), .always⟩,
  ⟨some 5, Op.call { callee := Callee.value (Operand.func 34), args := #[Operand.tmp 4], argTypes := #[24] }, .always⟩,
  ⟨some 6, Op.unOp UnOp.not 4 (Operand.tmp 5), .always⟩]
def k12_r2 : List SOp :=
  [⟨some 2, Op.assign (Operand.const (Value.bool false)), .always⟩]
def k12_r3 : List SOp :=
  [⟨some 3, Op.assign (Operand.const (Value.int IntKind.i64 0)), .always⟩]
def k12_r4 : List SOp :=
  [⟨some 7, Op.move (Operand.tmp 3), .always⟩,
  ⟨some 8, Op.fieldAddr 24 (Operand.tmp 1) 0, .always⟩,
  ⟨some 9, Op.load 22 (Operand.tmp 8), .always⟩,
  ⟨some 10, Op.call { callee := Callee.builtin Builtin.len, args := #[Operand.tmp 9], argTypes := #[22] }, .always⟩,
  ⟨some 11, Op.binOp BinOp.lss 3 (Operand.tmp 7) (Operand.tmp 10) 3, .always⟩]
def k12_r6 : List SOp :=
  [⟨some 14, Op.load 24 (Operand.tmp 1), .always⟩,
  ⟨some 15, Op.fieldAddr 24 (Operand.tmp 1) 0, .always⟩,
  ⟨some 16, Op.load 22 (Operand.tmp 15), .always⟩,
  ⟨some 17, Op.move (Operand.tmp 3), .always⟩,
  ⟨some 18, Op.indexAddr 22 (Operand.tmp 16) (Operand.tmp 17), .always⟩,
  ⟨some 19, Op.load 40 (Operand.tmp 18), .always⟩,
  ⟨some 20, Op.call { callee := Callee.value (Operand.func 35), args := #[Operand.tmp 14, Operand.tmp 19], argTypes := #[24, 40] }, .always⟩,
  ⟨some 21, Op.binOp BinOp.neq 81 (Operand.tmp 20) (Operand.const (Value.int IntKind.i64 0)) 81, .always⟩]
def k12_r7 : List SOp :=
  [⟨some 2, Op.assign (Operand.const (Value.bool false)), .always⟩]
def k12_r5 : List SOp :=
  [⟨some 12, Op.move (Operand.tmp 3), .always⟩,
  ⟨some 13, Op.binOp BinOp.add 3 (Operand.tmp 12) (Operand.const (Value.int IntKind.i64 1)) 3, .always⟩,
  ⟨some 3, Op.assign (Operand.tmp 13), .always⟩]
def k12_l0 : SC :=
  (.seq (.seq (.region k12_r4)
  (.cond (Operand.tmp 11) .skip (.exit 0)))
  (.seq (.block 1 (.seq (.draw k12_r6 k12_b6)
  (.cond (Operand.tmp 21) (.seq (.region k12_r7)
  .ret) .skip)))
  (.region k12_r5)))
def k12_r8 : List SOp :=
  [⟨some 2, Op.assign (Operand.const (Value.bool true)), .always⟩]
def k12 : SC :=
  (.seq (.region k12_r0)
  (.seq (.seq (.region k12_r1)
  (.cond (Operand.tmp 6) (.seq (.region k12_r2)
  .ret) .skip))
  (.seq (.seq (.region k12_r3)
  (.block 0 (.loop k12_l0)))
  (.seq (.region k12_r8)
  .ret))))
theorem k12_func : Tryz.prog.funcs[12]? = some Tryz.f12 := by kernel_rfl
theorem k12_code : (Tryz.f12.body).map compile = some k12 := by kernel_rfl
theorem k12_tmps : Tryz.f12.ntmps = 22 := by kernel_rfl
theorem k12_res : Tryz.f12.results.toList = [ResultVar.tmp 2] := by kernel_rfl
theorem hint_12_1 : hintF 12 1 = 1 := by kernel_rfl
/- "planisphere/planisphereref12.Find" -/
def k55_r0 : List SOp :=
  [⟨some 2, Op.box 24 (Operand.tmp 0), .always⟩,
  ⟨some 4, Op.assign (Operand.const (Value.int IntKind.i64 0)), .always⟩]
def k55_r1 : List SOp :=
  [⟨some 5, Op.assign (Operand.const (Value.int IntKind.i64 0)), .always⟩]
def k55_r2 : List SOp :=
  [⟨some 6, Op.move (Operand.tmp 5), .always⟩,
  ⟨some 7, Op.fieldAddr 24 (Operand.tmp 2) 0, .always⟩,
  ⟨some 8, Op.load 22 (Operand.tmp 7), .always⟩,
  ⟨some 9, Op.call { callee := Callee.builtin Builtin.len, args := #[Operand.tmp 8], argTypes := #[22] }, .always⟩,
  ⟨some 10, Op.binOp BinOp.lss 3 (Operand.tmp 6) (Operand.tmp 9) 3, .always⟩]
def k55_r4 : List SOp :=
  [⟨some 13, Op.fieldAddr 24 (Operand.tmp 2) 0, .always⟩,
  ⟨some 14, Op.load 22 (Operand.tmp 13), .always⟩,
  ⟨some 15, Op.move (Operand.tmp 5), .always⟩,
  ⟨some 16, Op.indexAddr 22 (Operand.tmp 14) (Operand.tmp 15), .always⟩,
  ⟨some 17, Op.fieldAddr 40 (Operand.tmp 16) 0, .always⟩,
  ⟨some 18, Op.load 9 (Operand.tmp 17), .always⟩,
  ⟨some 19, Op.move (Operand.tmp 1), .always⟩,
  ⟨some 20, Op.binOp BinOp.eql 9 (Operand.tmp 18) (Operand.tmp 19) 9, .always⟩]
def k55_r5 : List SOp :=
  [⟨some 21, Op.move (Operand.tmp 5), .always⟩,
  ⟨some 4, Op.assign (Operand.tmp 21), .always⟩]
def k55_r3 : List SOp :=
  [⟨some 11, Op.move (Operand.tmp 5), .always⟩,
  ⟨some 12, Op.binOp BinOp.add 3 (Operand.tmp 11) (Operand.const (Value.int IntKind.i64 1)) 3, .always⟩,
  ⟨some 5, Op.assign (Operand.tmp 12), .always⟩]
def k55_l0 : SC :=
  (.seq (.seq (.region k55_r2)
  (.cond (Operand.tmp 10) .skip (.exit 0)))
  (.seq (.block 1 (.seq (.region k55_r4)
  (.cond (Operand.tmp 20) (.seq (.region k55_r5)
  .ret) .skip)))
  (.region k55_r3)))
def k55_r6 : List SOp :=
  [⟨some 4, Op.assign (Operand.const (Value.int IntKind.i64 (-1))), .always⟩]
def k55 : SC :=
  (.seq (.region k55_r0)
  (.seq (.seq (.region k55_r1)
  (.block 0 (.loop k55_l0)))
  (.seq (.region k55_r6)
  .ret)))
theorem k55_func : Tryz.prog.funcs[55]? = some Tryz.f55 := by kernel_rfl
theorem k55_code : (Tryz.f55.body).map compile = some k55 := by kernel_rfl
theorem k55_tmps : Tryz.f55.ntmps = 22 := by kernel_rfl
theorem k55_res : Tryz.f55.results.toList = [ResultVar.tmp 4] := by kernel_rfl
theorem hint_55_2 : hintF 55 2 = 1 := by kernel_rfl
/- "planisphere/planisphereref21.Wanted" -/
def k56_r0 : List SOp :=
  [⟨some 4, Op.assign (Operand.const (Value.int IntKind.i64 0)), .always⟩]
def k56_r1 : List SOp :=
  [⟨some 5, Op.move (Operand.tmp 0), .always⟩,
  ⟨some 6, Op.binOp BinOp.eql 3 (Operand.tmp 5) (Operand.const (Value.int IntKind.i64 4)) 3, .always⟩,
  ⟨some 7, Op.move (Operand.tmp 6), .always⟩,
  ⟨some 8, Op.move (Operand.tmp 0), (.when 7 false)⟩,
  ⟨some 9, Op.binOp BinOp.eql 3 (Operand.tmp 8) (Operand.const (Value.int IntKind.i64 5)) 3, (.when 7 false)⟩,
  ⟨some 10, Op.move (Operand.tmp 9), (.when 7 false)⟩,
  ⟨some 11, Op.move (Operand.tmp 1), (.when 10 true)⟩,
  ⟨some 12, Op.binOp BinOp.neq 3 (Operand.tmp 11) (Operand.const (Value.int IntKind.i64 1)) 3, (.when 10 true)⟩,
  ⟨some 13, Op.pick (Operand.tmp 10) (Operand.tmp 12) (Operand.const (Value.bool false)), (.when 7 false)⟩,
  ⟨some 14, Op.pick (Operand.tmp 7) (Operand.const (Value.bool true)) (Operand.tmp 13), .always⟩]
def k56_r2 : List SOp :=
  [⟨some 4, Op.assign (Operand.const (Value.int IntKind.i64 2)), .always⟩]
def k56_r3 : List SOp :=
  [⟨some 4, Op.assign (Operand.const (Value.int IntKind.i64 1)), .always⟩]
def k56 : SC :=
  (.seq (.region k56_r0)
  (.seq (.seq (.region k56_r1)
  (.cond (Operand.tmp 14) (.seq (.region k56_r2)
  .ret) .skip))
  (.seq (.region k56_r3)
  .ret)))
theorem k56_func : Tryz.prog.funcs[56]? = some Tryz.f56 := by kernel_rfl
theorem k56_code : (Tryz.f56.body).map compile = some k56 := by kernel_rfl
theorem k56_tmps : Tryz.f56.ntmps = 15 := by kernel_rfl
theorem k56_res : Tryz.f56.results.toList = [ResultVar.tmp 4] := by kernel_rfl
/- "planisphere/object.Same" -/
def k16_r0 : List SOp :=
  [⟨some 2, Op.box 40 (Operand.tmp 0), .always⟩,
  ⟨some 3, Op.box 40 (Operand.tmp 1), .always⟩,
  ⟨some 4, Op.assign (Operand.const (Value.bool false)), .always⟩]
def k16_r1 : List SOp :=
  [⟨some 5, Op.fieldAddr 40 (Operand.tmp 2) 0, .always⟩,
  ⟨some 6, Op.load 9 (Operand.tmp 5), .always⟩,
  ⟨some 7, Op.fieldAddr 40 (Operand.tmp 3) 0, .always⟩,
  ⟨some 8, Op.load 9 (Operand.tmp 7), .always⟩,
  ⟨some 9, Op.binOp BinOp.eql 9 (Operand.tmp 6) (Operand.tmp 8) 9, .always⟩,
  ⟨some 10, Op.move (Operand.tmp 9), .always⟩,
  ⟨some 11, Op.fieldAddr 40 (Operand.tmp 2) 1, (.when 10 true)⟩,
  ⟨some 12, Op.load 3 (Operand.tmp 11), (.when 10 true)⟩,
  ⟨some 13, Op.fieldAddr 40 (Operand.tmp 3) 1, (.when 10 true)⟩,
  ⟨some 14, Op.load 3 (Operand.tmp 13), (.when 10 true)⟩,
  ⟨some 15, Op.binOp BinOp.eql 3 (Operand.tmp 12) (Operand.tmp 14) 3, (.when 10 true)⟩,
  ⟨some 16, Op.pick (Operand.tmp 10) (Operand.tmp 15) (Operand.const (Value.bool false)), .always⟩,
  ⟨some 17, Op.move (Operand.tmp 16), .always⟩,
  ⟨some 18, Op.fieldAddr 40 (Operand.tmp 2) 2, (.when 17 true)⟩,
  ⟨some 19, Op.load 36 (Operand.tmp 18), (.when 17 true)⟩,
  ⟨some 20, Op.fieldAddr 40 (Operand.tmp 3) 2, (.when 17 true)⟩,
  ⟨some 21, Op.load 36 (Operand.tmp 20), (.when 17 true)⟩,
  ⟨some 22, Op.binOp BinOp.eql 36 (Operand.tmp 19) (Operand.tmp 21) 36, (.when 17 true)⟩,
  ⟨some 23, Op.pick (Operand.tmp 17) (Operand.tmp 22) (Operand.const (Value.bool false)), .always⟩,
  ⟨some 24, Op.move (Operand.tmp 23), .always⟩,
  ⟨some 25, Op.fieldAddr 40 (Operand.tmp 2) 3, (.when 24 true)⟩,
  ⟨some 26, Op.load 37 (Operand.tmp 25), (.when 24 true)⟩,
  ⟨some 27, Op.fieldAddr 40 (Operand.tmp 3) 3, (.when 24 true)⟩,
  ⟨some 28, Op.load 37 (Operand.tmp 27), (.when 24 true)⟩,
  ⟨some 29, Op.call { callee := Callee.value (Operand.func 37), args := #[Operand.tmp 26, Operand.tmp 28], argTypes := #[37, 37] }, (.when 24 true)⟩,
  ⟨some 30, Op.pick (Operand.tmp 24) (Operand.tmp 29) (Operand.const (Value.bool false)), .always⟩,
  ⟨some 31, Op.move (Operand.tmp 30), .always⟩,
  ⟨some 32, Op.fieldAddr 40 (Operand.tmp 2) 4, (.when 31 true)⟩,
  ⟨some 33, Op.load 38 (Operand.tmp 32), (.when 31 true)⟩,
  ⟨some 34, Op.fieldAddr 40 (Operand.tmp 3) 4, (.when 31 true)⟩,
  ⟨some 35, Op.load 38 (Operand.tmp 34), (.when 31 true)⟩,
  ⟨some 36, Op.call { callee := Callee.value (Operand.func 38), args := #[Operand.tmp 33, Operand.tmp 35], argTypes := #[38, 38] }, (.when 31 true)⟩,
  ⟨some 37, Op.pick (Operand.tmp 31) (Operand.tmp 36) (Operand.const (Value.bool false)), .always⟩,
  ⟨some 4, Op.assign (Operand.tmp 37), .always⟩]
def k16 : SC :=
  (.seq (.region k16_r0)
  (.seq (.region k16_r1)
  .ret))
theorem k16_func : Tryz.prog.funcs[16]? = some Tryz.f16 := by kernel_rfl
theorem k16_code : (Tryz.f16.body).map compile = some k16 := by kernel_rfl
theorem k16_tmps : Tryz.f16.ntmps = 38 := by kernel_rfl
theorem k16_res : Tryz.f16.results.toList = [ResultVar.tmp 4] := by kernel_rfl
theorem hint_16_2 : hintF 16 2 = 1 := by kernel_rfl
theorem hint_16_3 : hintF 16 3 = 1 := by kernel_rfl
/- "slices.Equal[[]string,string]" -/
def k37_b6 : List Nat := [0, 0, 3, 7, 0, 0, 48, 112, 255]
def k37_r0 : List SOp :=
  [⟨some 4, Op.assign (Operand.const (Value.bool false)), .always⟩]
def k37_r1 : List SOp :=
  [⟨some 6, Op.move (Operand.tmp 0), .always⟩,
  ⟨some 7, Op.call { callee := Callee.builtin Builtin.len, args := #[Operand.tmp 6], argTypes := #[37] }, .always⟩,
  ⟨some 8, Op.move (Operand.tmp 1), .always⟩,
  ⟨some 9, Op.call { callee := Callee.builtin Builtin.len, args := #[Operand.tmp 8], argTypes := #[37] }, .always⟩,
  ⟨some 10, Op.binOp BinOp.neq 3 (Operand.tmp 7) (Operand.tmp 9) 3, .always⟩]
def k37_r2 : List SOp :=
  [⟨some 4, Op.assign (Operand.const (Value.bool false)), .always⟩]
def k37_r3 : List SOp :=
  [⟨some 11, Op.move (Operand.tmp 0), .always⟩,
  ⟨some 12, Op.call { callee := Callee.builtin Builtin.len, args := #[Operand.tmp 11], argTypes := #[37] }, .always⟩,
  ⟨some 13, Op.move (Operand.const (Value.int IntKind.i64 0)), .always⟩]
def k37_r4 : List SOp :=
  [⟨some 14, Op.binOp BinOp.lss 3 (Operand.tmp 13) (Operand.tmp 12) 3, .always⟩]
def k37_r5 : List SOp :=
  [⟨some 15, Op.move (Operand.tmp 13), .always⟩,
  ⟨some 5, Op.assign (Operand.tmp 15), .always⟩]
def k37_r6 : List SOp :=
  [⟨some 16, Op.move (Operand.tmp 0), .always⟩,
  ⟨some 17, Op.move (Operand.tmp 5), .always⟩,
  ⟨some 18, Op.indexAddr 37 (Operand.tmp 16) (Operand.tmp 17), .always⟩,
  ⟨some 19, Op.load 9 (Operand.tmp 18), .always⟩,
  ⟨some 20, Op.move (Operand.tmp 1), .always⟩,
  ⟨some 21, Op.move (Operand.tmp 5), .always⟩,
  ⟨some 22, Op.indexAddr 37 (Operand.tmp 20) (Operand.tmp 21), .always⟩,
  ⟨some 23, Op.load 9 (Operand.tmp 22), .always⟩,
  ⟨some 24, Op.binOp BinOp.neq 9 (Operand.tmp 19) (Operand.tmp 23) 9, .always⟩]
def k37_r7 : List SOp :=
  [⟨some 4, Op.assign (Operand.const (Value.bool false)), .always⟩]
def k37_r8 : List SOp :=
  [⟨some 25, Op.binOp BinOp.add 3 (Operand.tmp 13) (Operand.const (Value.int IntKind.i64 1)) 3, .always⟩,
  ⟨some 13, Op.move (Operand.tmp 25), .always⟩]
def k37_l0 : SC :=
  (.seq (.region k37_r4)
  (.seq (.cond (Operand.tmp 14) .skip (.exit 0))
  (.seq (.block 1 (.seq (.region k37_r5)
  (.seq (.draw k37_r6 k37_b6)
  (.cond (Operand.tmp 24) (.seq (.region k37_r7)
  .ret) .skip))))
  (.region k37_r8))))
def k37_r9 : List SOp :=
  [⟨some 4, Op.assign (Operand.const (Value.bool true)), .always⟩]
def k37 : SC :=
  (.seq (.region k37_r0)
  (.seq (.seq (.region k37_r1)
  (.cond (Operand.tmp 10) (.seq (.region k37_r2)
  .ret) .skip))
  (.seq (.seq (.region k37_r3)
  (.block 0 (.loop k37_l0)))
  (.seq (.region k37_r9)
  .ret))))
theorem k37_func : Tryz.prog.funcs[37]? = some Tryz.f37 := by kernel_rfl
theorem k37_code : (Tryz.f37.body).map compile = some k37 := by kernel_rfl
theorem k37_tmps : Tryz.f37.ntmps = 26 := by kernel_rfl
theorem k37_res : Tryz.f37.results.toList = [ResultVar.tmp 4] := by kernel_rfl
theorem hint_37_7 : hintF 37 7 = 0 := by kernel_rfl
theorem hint_37_9 : hintF 37 9 = 0 := by kernel_rfl
theorem hint_37_12 : hintF 37 12 = 0 := by kernel_rfl
/- "slices.Equal[[]planisphere/api.Tag,planisphere/api.Tag]" -/
def k38_b6 : List Nat := [0, 0, 3, 7, 0, 0, 48, 112, 255]
def k38_r0 : List SOp :=
  [⟨some 4, Op.assign (Operand.const (Value.bool false)), .always⟩]
def k38_r1 : List SOp :=
  [⟨some 6, Op.move (Operand.tmp 0), .always⟩,
  ⟨some 7, Op.call { callee := Callee.builtin Builtin.len, args := #[Operand.tmp 6], argTypes := #[38] }, .always⟩,
  ⟨some 8, Op.move (Operand.tmp 1), .always⟩,
  ⟨some 9, Op.call { callee := Callee.builtin Builtin.len, args := #[Operand.tmp 8], argTypes := #[38] }, .always⟩,
  ⟨some 10, Op.binOp BinOp.neq 3 (Operand.tmp 7) (Operand.tmp 9) 3, .always⟩]
def k38_r2 : List SOp :=
  [⟨some 4, Op.assign (Operand.const (Value.bool false)), .always⟩]
def k38_r3 : List SOp :=
  [⟨some 11, Op.move (Operand.tmp 0), .always⟩,
  ⟨some 12, Op.call { callee := Callee.builtin Builtin.len, args := #[Operand.tmp 11], argTypes := #[38] }, .always⟩,
  ⟨some 13, Op.move (Operand.const (Value.int IntKind.i64 0)), .always⟩]
def k38_r4 : List SOp :=
  [⟨some 14, Op.binOp BinOp.lss 3 (Operand.tmp 13) (Operand.tmp 12) 3, .always⟩]
def k38_r5 : List SOp :=
  [⟨some 15, Op.move (Operand.tmp 13), .always⟩,
  ⟨some 5, Op.assign (Operand.tmp 15), .always⟩]
def k38_r6 : List SOp :=
  [⟨some 16, Op.move (Operand.tmp 0), .always⟩,
  ⟨some 17, Op.move (Operand.tmp 5), .always⟩,
  ⟨some 18, Op.indexAddr 38 (Operand.tmp 16) (Operand.tmp 17), .always⟩,
  ⟨some 19, Op.load 51 (Operand.tmp 18), .always⟩,
  ⟨some 20, Op.move (Operand.tmp 1), .always⟩,
  ⟨some 21, Op.move (Operand.tmp 5), .always⟩,
  ⟨some 22, Op.indexAddr 38 (Operand.tmp 20) (Operand.tmp 21), .always⟩,
  ⟨some 23, Op.load 51 (Operand.tmp 22), .always⟩,
  ⟨some 24, Op.binOp BinOp.neq 51 (Operand.tmp 19) (Operand.tmp 23) 51, .always⟩]
def k38_r7 : List SOp :=
  [⟨some 4, Op.assign (Operand.const (Value.bool false)), .always⟩]
def k38_r8 : List SOp :=
  [⟨some 25, Op.binOp BinOp.add 3 (Operand.tmp 13) (Operand.const (Value.int IntKind.i64 1)) 3, .always⟩,
  ⟨some 13, Op.move (Operand.tmp 25), .always⟩]
def k38_l0 : SC :=
  (.seq (.region k38_r4)
  (.seq (.cond (Operand.tmp 14) .skip (.exit 0))
  (.seq (.block 1 (.seq (.region k38_r5)
  (.seq (.draw k38_r6 k38_b6)
  (.cond (Operand.tmp 24) (.seq (.region k38_r7)
  .ret) .skip))))
  (.region k38_r8))))
def k38_r9 : List SOp :=
  [⟨some 4, Op.assign (Operand.const (Value.bool true)), .always⟩]
def k38 : SC :=
  (.seq (.region k38_r0)
  (.seq (.seq (.region k38_r1)
  (.cond (Operand.tmp 10) (.seq (.region k38_r2)
  .ret) .skip))
  (.seq (.seq (.region k38_r3)
  (.block 0 (.loop k38_l0)))
  (.seq (.region k38_r9)
  .ret))))
theorem k38_func : Tryz.prog.funcs[38]? = some Tryz.f38 := by kernel_rfl
theorem k38_code : (Tryz.f38.body).map compile = some k38 := by kernel_rfl
theorem k38_tmps : Tryz.f38.ntmps = 26 := by kernel_rfl
theorem k38_res : Tryz.f38.results.toList = [ResultVar.tmp 4] := by kernel_rfl
theorem hint_38_7 : hintF 38 7 = 0 := by kernel_rfl
theorem hint_38_9 : hintF 38 9 = 0 := by kernel_rfl
theorem hint_38_12 : hintF 38 12 = 0 := by kernel_rfl
/- "planisphere/merge.objects" -/
def k23_r0 : List SOp :=
  [⟨some 1, Op.box 24 (Operand.tmp 0), .always⟩,
  ⟨some 2, Op.assign (Operand.const (Value.map none)), .always⟩]
def k23_r1 : List SOp :=
  [⟨some 6, Op.fieldAddr 24 (Operand.tmp 1) 0, .always⟩,
  ⟨some 7, Op.load 22 (Operand.tmp 6), .always⟩,
  ⟨some 8, Op.call { callee := Callee.builtin Builtin.len, args := #[Operand.tmp 7], argTypes := #[22] }, .always⟩,
  ⟨some 9, Op.makeMap 61 (some (Operand.tmp 8)), .always⟩,
  ⟨some 3, Op.assign (Operand.tmp 9), .always⟩]
def k23_r2 : List SOp :=
  [⟨some 10, Op.fieldAddr 24 (Operand.tmp 1) 0, .always⟩,
  ⟨some 11, Op.load 22 (Operand.tmp 10), .always⟩,
  ⟨some 12, Op.call { callee := Callee.builtin Builtin.len, args := #[Operand.tmp 11], argTypes := #[22] }, .always⟩,
  ⟨some 13, Op.move (Operand.const (Value.int IntKind.i64 0)), .always⟩]
def k23_r3 : List SOp :=
  [⟨some 14, Op.binOp BinOp.lss 3 (Operand.tmp 13) (Operand.tmp 12) 3, .always⟩]
def k23_r4 : List SOp :=
  [⟨some 15, Op.indexAddr 22 (Operand.tmp 11) (Operand.tmp 13), .always⟩,
  ⟨some 16, Op.load 40 (Operand.tmp 15), .always⟩,
  ⟨some 5, Op.alloc 40, .always⟩,
  ⟨none, Op.store 40 (Operand.tmp 5) (Operand.tmp 16), .always⟩]
def k23_r5 : List SOp :=
  [⟨some 17, Op.move (Operand.tmp 3), .always⟩,
  ⟨some 18, Op.fieldAddr 40 (Operand.tmp 5) 0, .always⟩,
  ⟨some 19, Op.load 9 (Operand.tmp 18), .always⟩,
  ⟨none, Op.mapUpdate 61 (Operand.tmp 17) (Operand.tmp 19) (Operand.tmp 5), .always⟩]
def k23_r6 : List SOp :=
  [⟨some 20, Op.binOp BinOp.add 3 (Operand.tmp 13) (Operand.const (Value.int IntKind.i64 1)) 3, .always⟩,
  ⟨some 13, Op.move (Operand.tmp 20), .always⟩]
def k23_l0 : SC :=
  (.seq (.region k23_r3)
  (.seq (.cond (Operand.tmp 14) .skip (.exit 0))
  (.seq (.block 1 (.seq (.region k23_r4)
  (.region k23_r5)))
  (.region k23_r6))))
def k23_r7 : List SOp :=
  [⟨some 21, Op.move (Operand.tmp 3), .always⟩,
  ⟨some 2, Op.assign (Operand.tmp 21), .always⟩]
def k23 : SC :=
  (.seq (.region k23_r0)
  (.seq (.region k23_r1)
  (.seq (.seq (.region k23_r2)
  (.block 0 (.loop k23_l0)))
  (.seq (.region k23_r7)
  .ret))))
theorem k23_func : Tryz.prog.funcs[23]? = some Tryz.f23 := by kernel_rfl
theorem k23_code : (Tryz.f23.body).map compile = some k23 := by kernel_rfl
theorem k23_tmps : Tryz.f23.ntmps = 22 := by kernel_rfl
theorem k23_res : Tryz.f23.results.toList = [ResultVar.tmp 2] := by kernel_rfl
theorem hint_23_1 : hintF 23 1 = 1 := by kernel_rfl
theorem hint_23_5 : hintF 23 5 = 0 := by kernel_rfl
theorem hint_23_8 : hintF 23 8 = 0 := by kernel_rfl
theorem hint_23_12 : hintF 23 12 = 0 := by kernel_rfl
/- "(*planisphere/merge.merger).merge" -/
def k24_b1 : List Nat := [0, 1, 3, 7, 0, 31, 0, 64, 192, 448, 0, 1984, 0, 4096, 12288, 28672, 0, 126976, 63, 266239, 1048575]
def k24_b7 : List Nat := [0, 1, 3, 7, 15, 31, 63, 127, 255, 511, 1023, 2047, 4095, 8191, 16383, 2047, 34815, 100351, 231423, 524287, 1048575, 2097151, 4194303, 8388607, 16777215, 33554431, 4194303, 71303167, 205520895, 473956351, 1073741823, 2147483647, 4294967295]
def k24_r0 : List SOp :=
  [⟨some 4, Op.assign (Operand.const (Value.pointer none)), .always⟩]
def k24_r1 : List SOp :=
  [⟨some 8, Op.move (Operand.tmp 0), .always⟩,
  ⟨some 9, Op.nilCheck (Operand.tmp 8), .always⟩,
  ⟨some 10, Op.fieldAddr 65 (Operand.tmp 9) 0, .always⟩,
  ⟨some 11, Op.load 61 (Operand.tmp 10), .always⟩,
  ⟨some 12, Op.move (Operand.tmp 1), .always⟩,
  ⟨some 13, Op.lookup 61 (Operand.tmp 11) (Operand.tmp 12) false, .always⟩,
  ⟨some 14, Op.move (Operand.tmp 0), .always⟩,
  ⟨some 15, Op.nilCheck (Operand.tmp 14), .always⟩,
  ⟨some 16, Op.fieldAddr 65 (Operand.tmp 15) 1, .always⟩,
  ⟨some 17, Op.load 61 (Operand.tmp 16), .always⟩,
  ⟨some 18, Op.move (Operand.tmp 1), .always⟩,
  ⟨some 19, Op.lookup 61 (Operand.tmp 17) (Operand.tmp 18) false, .always⟩,
  ⟨some 20, Op.move (Operand.tmp 0), .always⟩,
  ⟨some 21, Op.nilCheck (Operand.tmp 20), .always⟩,
  ⟨some 22, Op.fieldAddr 65 (Operand.tmp 21) 2, .always⟩,
  ⟨some 23, Op.load 61 (Operand.tmp 22), .always⟩,
  ⟨some 24, Op.move (Operand.tmp 1), .always⟩,
  ⟨some 25, Op.lookup 61 (Operand.tmp 23) (Operand.tmp 24) false, .always⟩,
  ⟨some 5, Op.assign (Operand.tmp 13), .always⟩,
  ⟨some 6, Op.assign (Operand.tmp 19), .always⟩,
  ⟨some 7, Op.assign (Operand.tmp 25), .always⟩]
def k24_r2 : List SOp :=
  [⟨some 27, Op.move (Operand.tmp 6), .always⟩,
  ⟨some 28, Op.move (Operand.tmp 7), .always⟩,
  ⟨some 29, Op.call { callee := Callee.value (Operand.func 43), args := #[Operand.tmp 27, Operand.tmp 28], argTypes := #[67, 67] }, .always⟩,
  ⟨some 26, Op.assign (Operand.tmp 29), .always⟩]
def k24_r3 : List SOp :=
  [⟨some 30, Op.move (Operand.tmp 7), .always⟩,
  ⟨some 31, Op.move (Operand.tmp 5), .always⟩,
  ⟨some 32, Op.call { callee := Callee.value (Operand.func 43), args := #[Operand.tmp 30, Operand.tmp 31], argTypes := #[67, 67] }, .always⟩,
  ⟨some 26, Op.assign (Operand.tmp 32), .always⟩]
def k24_r4 : List SOp :=
  [⟨some 33, Op.move (Operand.tmp 6), .always⟩,
  ⟨some 4, Op.assign (Operand.tmp 33), .always⟩]
def k24_r5 : List SOp :=
  [⟨some 35, Op.move (Operand.tmp 6), .always⟩,
  ⟨some 36, Op.move (Operand.tmp 5), .always⟩,
  ⟨some 37, Op.call { callee := Callee.value (Operand.func 43), args := #[Operand.tmp 35, Operand.tmp 36], argTypes := #[67, 67] }, .always⟩,
  ⟨some 34, Op.assign (Operand.tmp 37), .always⟩]
def k24_r6 : List SOp :=
  [⟨some 38, Op.move (Operand.tmp 7), .always⟩,
  ⟨some 4, Op.assign (Operand.tmp 38), .always⟩]
def k24_r7 : List SOp :=
  [⟨some 40, Op.move (Operand.tmp 6), .always⟩,
  ⟨some 41, Op.binOp BinOp.neq 67 (Operand.tmp 40) (Operand.const (Value.pointer none)) 67, .always⟩,
  ⟨some 42, Op.move (Operand.tmp 41), .always⟩,
  ⟨some 43, Op.move (Operand.tmp 7), (.when 42 true)⟩,
  ⟨some 44, Op.binOp BinOp.neq 67 (Operand.tmp 43) (Operand.const (Value.pointer none)) 67, (.when 42 true)⟩,
  ⟨some 45, Op.pick (Operand.tmp 42) (Operand.tmp 44) (Operand.const (Value.bool false)), .always⟩,
  ⟨some 46, Op.move (Operand.tmp 45), .always⟩,
  ⟨some 47, Op.move (Operand.tmp 5), (.when 46 true)⟩,
  ⟨some 48, Op.binOp BinOp.neq 67 (Operand.tmp 47) (Operand.const (Value.pointer none)) 67, (.when 46 true)⟩,
  ⟨some 49, Op.pick (Operand.tmp 46) (Operand.tmp 48) (Operand.const (Value.bool false)), .always⟩,
  ⟨some 50, Op.move (Operand.tmp 49), .always⟩,
  ⟨some 51, Op.move (Operand.tmp 6), (.when 50 true)⟩,
  ⟨some 52, Op.nilCheck (Operand.tmp 51), (.when 50 true)⟩,
  ⟨some 53, Op.fieldAddr 40 (Operand.tmp 52) 1, (.when 50 true)⟩,
  ⟨some 54, Op.load 3 (Operand.tmp 53), (.when 50 true)⟩,
  ⟨some 55, Op.move (Operand.tmp 5), (.when 50 true)⟩,
  ⟨some 56, Op.nilCheck (Operand.tmp 55), (.when 50 true)⟩,
  ⟨some 57, Op.fieldAddr 40 (Operand.tmp 56) 1, (.when 50 true)⟩,
  ⟨some 58, Op.load 3 (Operand.tmp 57), (.when 50 true)⟩,
  ⟨some 59, Op.binOp BinOp.eql 3 (Operand.tmp 54) (Operand.tmp 58) 3, (.when 50 true)⟩,
  ⟨some 60, Op.pick (Operand.tmp 50) (Operand.tmp 59) (Operand.const (Value.bool false)), .always⟩,
  ⟨some 61, Op.move (Operand.tmp 60), .always⟩,
  ⟨some 62, Op.move (Operand.tmp 7), (.when 61 true)⟩,
  ⟨some 63, Op.nilCheck (Operand.tmp 62), (.when 61 true)⟩,
  ⟨some 64, Op.fieldAddr 40 (Operand.tmp 63) 1, (.when 61 true)⟩,
  ⟨some 65, Op.load 3 (Operand.tmp 64), (.when 61 true)⟩,
  ⟨some 66, Op.move (Operand.tmp 5), (.when 61 true)⟩,
  ⟨some 67, Op.nilCheck (Operand.tmp 66), (.when 61 true)⟩,
  ⟨some 68, Op.fieldAddr 40 (Operand.tmp 67) 1, (.when 61 true)⟩,
  ⟨some 69, Op.load 3 (Operand.tmp 68), (.when 61 true)⟩,
  ⟨some 70, Op.binOp BinOp.eql 3 (Operand.tmp 65) (Operand.tmp 69) 3, (.when 61 true)⟩,
  ⟨some 71, Op.pick (Operand.tmp 61) (Operand.tmp 70) (Operand.const (Value.bool false)), .always⟩,
  ⟨some 39, Op.assign (Operand.tmp 71), .always⟩]
def k24_r8 : List SOp :=
  [⟨some 72, Op.move (Operand.tmp 0), .always⟩,
  ⟨some 73, Op.move (Operand.tmp 5), .always⟩,
  ⟨some 74, Op.move (Operand.tmp 6), .always⟩,
  ⟨some 75, Op.move (Operand.tmp 7), .always⟩,
  ⟨some 76, Op.call { callee := Callee.value (Operand.func 44), args := #[Operand.tmp 72, Operand.tmp 73, Operand.tmp 74, Operand.tmp 75], argTypes := #[60, 67, 67, 67] }, .always⟩,
  ⟨some 4, Op.assign (Operand.tmp 76), .always⟩]
def k24_r9 : List SOp :=
  [⟨some 77, Op.move (Operand.tmp 0), .always⟩,
  ⟨some 78, Op.move (Operand.tmp 1), .always⟩,
  ⟨some 79, Op.call { callee := Callee.value (Operand.func 45), args := #[Operand.tmp 77, Operand.tmp 78, Operand.const (Value.string { data := #[111, 98, 106, 101, 99, 116] })], argTypes := #[60, 9, 9] }, .always⟩]
def k24_r10 : List SOp :=
  [⟨some 80, Op.move (Operand.tmp 6), .always⟩,
  ⟨some 81, Op.move (Operand.tmp 7), .always⟩,
  ⟨some 82, Op.call { callee := Callee.value (Operand.func 46), args := #[Operand.tmp 80, Operand.tmp 81], argTypes := #[67, 67] }, .always⟩,
  ⟨some 4, Op.assign (Operand.tmp 82), .always⟩]
def k24 : SC :=
  (.seq (.region k24_r0)
  (.seq (.draw k24_r1 k24_b1)
  (.seq (.block 0 (.seq (.seq (.region k24_r2)
  (.cond (Operand.tmp 26) .skip (.region k24_r3)))
  (.cond (Operand.tmp 26) (.seq (.region k24_r4)
  .ret) (.seq (.region k24_r5)
  (.cond (Operand.tmp 34) (.seq (.region k24_r6)
  .ret) (.seq (.draw k24_r7 k24_b7)
  (.cond (Operand.tmp 39) (.seq (.region k24_r8)
  .ret) .skip)))))))
  (.seq (.region k24_r9)
  (.seq (.region k24_r10)
  .ret)))))
theorem k24_func : Tryz.prog.funcs[24]? = some Tryz.f24 := by kernel_rfl
theorem k24_code : (Tryz.f24.body).map compile = some k24 := by kernel_rfl
theorem k24_tmps : Tryz.f24.ntmps = 83 := by kernel_rfl
theorem k24_res : Tryz.f24.results.toList = [ResultVar.tmp 4] := by kernel_rfl
/- "planisphere/merge.same" -/
def k43_b3 : List Nat := [0, 1, 3, 0, 8, 24, 63, 127]
def k43_r0 : List SOp :=
  [⟨some 4, Op.assign (Operand.const (Value.bool false)), .always⟩]
def k43_r1 : List SOp :=
  [⟨some 5, Op.move (Operand.tmp 0), .always⟩,
  ⟨some 6, Op.binOp BinOp.eql 67 (Operand.tmp 5) (Operand.const (Value.pointer none)) 67, .always⟩,
  ⟨some 7, Op.move (Operand.tmp 6), .always⟩,
  ⟨some 8, Op.move (Operand.tmp 1), (.when 7 false)⟩,
  ⟨some 9, Op.binOp BinOp.eql 67 (Operand.tmp 8) (Operand.const (Value.pointer none)) 67, (.when 7 false)⟩,
  ⟨some 10, Op.pick (Operand.tmp 7) (Operand.const (Value.bool true)) (Operand.tmp 9), .always⟩]
def k43_r2 : List SOp :=
  [⟨some 11, Op.move (Operand.tmp 0), .always⟩,
  ⟨some 12, Op.move (Operand.tmp 1), .always⟩,
  ⟨some 13, Op.binOp BinOp.eql 67 (Operand.tmp 11) (Operand.tmp 12) 67, .always⟩,
  ⟨some 4, Op.assign (Operand.tmp 13), .always⟩]
def k43_r3 : List SOp :=
  [⟨some 14, Op.move (Operand.tmp 0), .always⟩,
  ⟨some 15, Op.nilCheck (Operand.tmp 14), .always⟩,
  ⟨some 16, Op.load 40 (Operand.tmp 15), .always⟩,
  ⟨some 17, Op.move (Operand.tmp 1), .always⟩,
  ⟨some 18, Op.nilCheck (Operand.tmp 17), .always⟩,
  ⟨some 19, Op.load 40 (Operand.tmp 18), .always⟩,
  ⟨some 20, Op.call { callee := Callee.value (Operand.func 16), args := #[Operand.tmp 16, Operand.tmp 19], argTypes := #[40, 40] }, .always⟩,
  ⟨some 4, Op.assign (Operand.tmp 20), .always⟩]
def k43 : SC :=
  (.seq (.region k43_r0)
  (.seq (.seq (.region k43_r1)
  (.cond (Operand.tmp 10) (.seq (.region k43_r2)
  .ret) .skip))
  (.seq (.draw k43_r3 k43_b3)
  .ret)))
theorem k43_func : Tryz.prog.funcs[43]? = some Tryz.f43 := by kernel_rfl
theorem k43_code : (Tryz.f43.body).map compile = some k43 := by kernel_rfl
theorem k43_tmps : Tryz.f43.ntmps = 21 := by kernel_rfl
theorem k43_res : Tryz.f43.results.toList = [ResultVar.tmp 4] := by kernel_rfl
/- "(*planisphere/merge.merger).need" -/
def k27_b6 : List Nat := [0, 1, 3, 7, 0, 31, 0, 64, 192, 448, 0, 1984, 4095, 8191]
def k27_r0 : List SOp :=
  [⟨some 7, Op.move (Operand.tmp 1), .always⟩,
  ⟨some 8, Op.nilCheck (Operand.tmp 7), .always⟩,
  ⟨some 9, Op.fieldAddr 40 (Operand.tmp 8) 3, .always⟩,
  ⟨some 10, Op.load 37 (Operand.tmp 9), .always⟩,
  ⟨some 11, Op.call { callee := Callee.builtin Builtin.len, args := #[Operand.tmp 10], argTypes := #[37] }, .always⟩,
  ⟨some 12, Op.move (Operand.const (Value.int IntKind.i64 0)), .always⟩]
def k27_r1 : List SOp :=
  [⟨some 13, Op.binOp BinOp.lss 3 (Operand.tmp 12) (Operand.tmp 11) 3, .always⟩]
def k27_r2 : List SOp :=
  [⟨some 14, Op.indexAddr 37 (Operand.tmp 10) (Operand.tmp 12), .always⟩,
  ⟨some 15, Op.load 9 (Operand.tmp 14), .always⟩,
  ⟨some 5, Op.assign (Operand.tmp 15), .always⟩]
def k27_r3 : List SOp :=
  [⟨some 16, Op.move (Operand.tmp 0), .always⟩,
  ⟨some 17, Op.nilCheck (Operand.tmp 16), .always⟩,
  ⟨some 18, Op.fieldAddr 65 (Operand.tmp 17) 3, .always⟩,
  ⟨some 19, Op.load 61 (Operand.tmp 18), .always⟩,
  ⟨some 20, Op.move (Operand.tmp 5), .always⟩,
  ⟨some 21, Op.lookup 61 (Operand.tmp 19) (Operand.tmp 20) false, .always⟩,
  ⟨some 22, Op.binOp BinOp.neq 67 (Operand.tmp 21) (Operand.const (Value.pointer none)) 67, .always⟩]
def k27_r4 : List SOp :=
  [⟨some 23, Op.move (Operand.tmp 0), .always⟩,
  ⟨some 24, Op.nilCheck (Operand.tmp 23), .always⟩,
  ⟨some 25, Op.fieldAddr 65 (Operand.tmp 24) 0, .always⟩,
  ⟨some 26, Op.load 61 (Operand.tmp 25), .always⟩,
  ⟨some 27, Op.move (Operand.tmp 5), .always⟩,
  ⟨some 28, Op.lookup 61 (Operand.tmp 26) (Operand.tmp 27) false, .always⟩,
  ⟨some 6, Op.assign (Operand.tmp 28), .always⟩]
def k27_r5 : List SOp :=
  [⟨some 29, Op.move (Operand.tmp 6), .always⟩,
  ⟨some 30, Op.binOp BinOp.eql 67 (Operand.tmp 29) (Operand.const (Value.pointer none)) 67, .always⟩]
def k27_r6 : List SOp :=
  [⟨some 31, Op.move (Operand.tmp 0), .always⟩,
  ⟨some 32, Op.nilCheck (Operand.tmp 31), .always⟩,
  ⟨some 33, Op.fieldAddr 65 (Operand.tmp 32) 1, .always⟩,
  ⟨some 34, Op.load 61 (Operand.tmp 33), .always⟩,
  ⟨some 35, Op.move (Operand.tmp 5), .always⟩,
  ⟨some 36, Op.lookup 61 (Operand.tmp 34) (Operand.tmp 35) false, .always⟩,
  ⟨some 37, Op.move (Operand.tmp 0), .always⟩,
  ⟨some 38, Op.nilCheck (Operand.tmp 37), .always⟩,
  ⟨some 39, Op.fieldAddr 65 (Operand.tmp 38) 2, .always⟩,
  ⟨some 40, Op.load 61 (Operand.tmp 39), .always⟩,
  ⟨some 41, Op.move (Operand.tmp 5), .always⟩,
  ⟨some 42, Op.lookup 61 (Operand.tmp 40) (Operand.tmp 41) false, .always⟩,
  ⟨some 43, Op.call { callee := Callee.value (Operand.func 46), args := #[Operand.tmp 36, Operand.tmp 42], argTypes := #[67, 67] }, .always⟩,
  ⟨some 6, Op.assign (Operand.tmp 43), .always⟩]
def k27_r7 : List SOp :=
  [⟨some 44, Op.move (Operand.tmp 6), .always⟩,
  ⟨some 45, Op.binOp BinOp.neq 67 (Operand.tmp 44) (Operand.const (Value.pointer none)) 67, .always⟩]
def k27_r8 : List SOp :=
  [⟨some 46, Op.move (Operand.tmp 0), .always⟩,
  ⟨some 47, Op.nilCheck (Operand.tmp 46), .always⟩,
  ⟨some 48, Op.fieldAddr 65 (Operand.tmp 47) 3, .always⟩,
  ⟨some 49, Op.load 61 (Operand.tmp 48), .always⟩,
  ⟨some 50, Op.move (Operand.tmp 5), .always⟩,
  ⟨some 51, Op.move (Operand.tmp 6), .always⟩,
  ⟨none, Op.mapUpdate 61 (Operand.tmp 49) (Operand.tmp 50) (Operand.tmp 51), .always⟩]
def k27_r9 : List SOp :=
  [⟨some 52, Op.move (Operand.tmp 0), .always⟩,
  ⟨some 53, Op.move (Operand.tmp 5), .always⟩,
  ⟨some 54, Op.call { callee := Callee.value (Operand.func 45), args := #[Operand.tmp 52, Operand.tmp 53, Operand.const (Value.string { data := #[111, 98, 106, 101, 99, 116] })], argTypes := #[60, 9, 9] }, .always⟩]
def k27_r10 : List SOp :=
  [⟨some 55, Op.move (Operand.tmp 0), .always⟩,
  ⟨some 56, Op.move (Operand.tmp 6), .always⟩,
  ⟨some 57, Op.call { callee := Callee.value (Operand.func 27), args := #[Operand.tmp 55, Operand.tmp 56], argTypes := #[60, 67] }, .always⟩]
def k27_r11 : List SOp :=
  [⟨some 58, Op.binOp BinOp.add 3 (Operand.tmp 12) (Operand.const (Value.int IntKind.i64 1)) 3, .always⟩,
  ⟨some 12, Op.move (Operand.tmp 58), .always⟩]
def k27_l0 : SC :=
  (.seq (.region k27_r1)
  (.seq (.cond (Operand.tmp 13) .skip (.exit 0))
  (.seq (.block 1 (.seq (.region k27_r2)
  (.seq (.seq (.region k27_r3)
  (.cond (Operand.tmp 22) (.exit 1) .skip))
  (.seq (.region k27_r4)
  (.seq (.seq (.region k27_r5)
  (.cond (Operand.tmp 30) (.draw k27_r6 k27_b6) .skip))
  (.seq (.region k27_r7)
  (.cond (Operand.tmp 45) (.seq (.region k27_r8)
  (.seq (.region k27_r9)
  (.region k27_r10))) .skip)))))))
  (.region k27_r11))))
def k27 : SC :=
  (.seq (.region k27_r0)
  (.block 0 (.loop k27_l0)))
theorem k27_func : Tryz.prog.funcs[27]? = some Tryz.f27 := by kernel_rfl
theorem k27_code : (Tryz.f27.body).map compile = some k27 := by kernel_rfl
theorem k27_tmps : Tryz.f27.ntmps = 59 := by kernel_rfl
theorem k27_res : Tryz.f27.results.toList = [] := by kernel_rfl
theorem hint_27_11 : hintF 27 11 = 0 := by kernel_rfl
/- "planisphere/merge.Merge" -/
def k9_b3 : List Nat := [0, 1, 0, 7, 0, 31, 0, 0, 255, 511, 1023]
def k9_b4 : List Nat := [0, 1, 3, 7, 0, 16, 48, 112, 0, 256, 768, 1792, 4095, 8191, 0]
def k9_b23 : List Nat := [0, 1, 0, 4, 12, 28, 0, 124, 252, 508, 1020, 2047, 4095, 8191]
def k9_r0 : List SOp :=
  [⟨some 3, Op.box 24 (Operand.tmp 0), .always⟩,
  ⟨some 4, Op.box 24 (Operand.tmp 1), .always⟩,
  ⟨some 5, Op.box 24 (Operand.tmp 2), .always⟩,
  ⟨some 6, Op.alloc 24, .always⟩,
  ⟨some 7, Op.assign (Operand.const (Value.slice none 0 0)), .always⟩]
def k9_r1 : List SOp :=
  [⟨some 19, Op.load 24 (Operand.tmp 3), .always⟩,
  ⟨some 20, Op.call { callee := Callee.value (Operand.func 13), args := #[Operand.tmp 19], argTypes := #[24] }, .always⟩,
  ⟨some 21, Op.unOp UnOp.not 4 (Operand.tmp 20), .always⟩,
  ⟨some 22, Op.move (Operand.tmp 21), .always⟩,
  ⟨some 23, Op.load 24 (Operand.tmp 4), (.when 22 false)⟩,
  ⟨some 24, Op.call { callee := Callee.value (Operand.func 13), args := #[Operand.tmp 23], argTypes := #[24] }, (.when 22 false)⟩,
  ⟨some 25, Op.unOp UnOp.not 4 (Operand.tmp 24), (.when 22 false)⟩,
  ⟨some 26, Op.pick (Operand.tmp 22) (Operand.const (Value.bool true)) (Operand.tmp 25), .always⟩,
  ⟨some 27, Op.move (Operand.tmp 26), .always⟩,
  ⟨some 28, Op.load 24 (Operand.tmp 5), (.when 27 false)⟩,
  ⟨some 29, Op.call { callee := Callee.value (Operand.func 13), args := #[Operand.tmp 28], argTypes := #[24] }, (.when 27 false)⟩,
  ⟨some 30, Op.unOp UnOp.not 4 (Operand.tmp 29), (.when 27 false)⟩,
  ⟨some 31, Op.pick (Operand.tmp 27) (Operand.const (Value.bool true)) (Operand.tmp 30), .always⟩]
def k9_r2 : List SOp :=
  [⟨some 32, Op.build 24 #[], .always⟩,
  ⟨none, Op.store 24 (Operand.tmp 6) (Operand.tmp 32), .always⟩,
  ⟨some 7, Op.assign (Operand.const (Value.slice none 0 0)), .always⟩]
def k9_r3 : List SOp :=
  [⟨some 33, Op.load 24 (Operand.tmp 3), .always⟩,
  ⟨some 34, Op.call { callee := Callee.value (Operand.func 23), args := #[Operand.tmp 33], argTypes := #[24] }, .always⟩,
  ⟨some 35, Op.load 24 (Operand.tmp 4), .always⟩,
  ⟨some 36, Op.call { callee := Callee.value (Operand.func 23), args := #[Operand.tmp 35], argTypes := #[24] }, .always⟩,
  ⟨some 37, Op.load 24 (Operand.tmp 5), .always⟩,
  ⟨some 38, Op.call { callee := Callee.value (Operand.func 23), args := #[Operand.tmp 37], argTypes := #[24] }, .always⟩,
  ⟨some 39, Op.makeMap 61 none, .always⟩,
  ⟨some 40, Op.makeMap 63 none, .always⟩,
  ⟨some 41, Op.build 65 #[(0, Operand.tmp 34), (1, Operand.tmp 36), (2, Operand.tmp 38), (3, Operand.tmp 39), (4, Operand.tmp 40)], .always⟩,
  ⟨some 42, Op.box 65 (Operand.tmp 41), .always⟩,
  ⟨some 8, Op.assign (Operand.tmp 42), .always⟩]
def k9_r4 : List SOp :=
  [⟨some 43, Op.move (Operand.tmp 8), .always⟩,
  ⟨some 44, Op.nilCheck (Operand.tmp 43), .always⟩,
  ⟨some 45, Op.fieldAddr 65 (Operand.tmp 44) 0, .always⟩,
  ⟨some 46, Op.load 61 (Operand.tmp 45), .always⟩,
  ⟨some 47, Op.move (Operand.tmp 8), .always⟩,
  ⟨some 48, Op.nilCheck (Operand.tmp 47), .always⟩,
  ⟨some 49, Op.fieldAddr 65 (Operand.tmp 48) 1, .always⟩,
  ⟨some 50, Op.load 61 (Operand.tmp 49), .always⟩,
  ⟨some 51, Op.move (Operand.tmp 8), .always⟩,
  ⟨some 52, Op.nilCheck (Operand.tmp 51), .always⟩,
  ⟨some 53, Op.fieldAddr 65 (Operand.tmp 52) 2, .always⟩,
  ⟨some 54, Op.load 61 (Operand.tmp 53), .always⟩,
  ⟨some 55, Op.buildSlice 66 3 #[(0, Operand.tmp 46), (1, Operand.tmp 50), (2, Operand.tmp 54)], .always⟩,
  ⟨some 56, Op.call { callee := Callee.builtin Builtin.len, args := #[Operand.tmp 55], argTypes := #[66] }, .always⟩,
  ⟨some 57, Op.move (Operand.const (Value.int IntKind.i64 0)), .always⟩]
def k9_r5 : List SOp :=
  [⟨some 58, Op.binOp BinOp.lss 3 (Operand.tmp 57) (Operand.tmp 56) 3, .always⟩]
def k9_r6 : List SOp :=
  [⟨some 59, Op.indexAddr 66 (Operand.tmp 55) (Operand.tmp 57), .always⟩,
  ⟨some 60, Op.load 61 (Operand.tmp 59), .always⟩,
  ⟨some 10, Op.assign (Operand.tmp 60), .always⟩]
def k9_r7 : List SOp :=
  [⟨some 61, Op.move (Operand.tmp 10), .always⟩,
  ⟨some 62, Op.range 61 (Operand.tmp 61), .always⟩]
def k9_r8 : List SOp :=
  [⟨some 63, Op.next (Operand.tmp 62) false, .always⟩,
  ⟨some 64, Op.extract (Operand.tmp 63) 0, .always⟩]
def k9_r9 : List SOp :=
  [⟨some 65, Op.entry (Operand.tmp 62), .always⟩,
  ⟨some 66, Op.extract (Operand.tmp 65) 0, .always⟩,
  ⟨some 11, Op.assign (Operand.tmp 66), .always⟩]
def k9_r10 : List SOp :=
  [⟨some 67, Op.move (Operand.tmp 8), .always⟩,
  ⟨some 68, Op.move (Operand.tmp 11), .always⟩,
  ⟨some 69, Op.call { callee := Callee.value (Operand.func 24), args := #[Operand.tmp 67, Operand.tmp 68], argTypes := #[60, 9] }, .always⟩,
  ⟨some 12, Op.assign (Operand.tmp 69), .always⟩]
def k9_r11 : List SOp :=
  [⟨some 70, Op.move (Operand.tmp 12), .always⟩,
  ⟨some 71, Op.binOp BinOp.neq 67 (Operand.tmp 70) (Operand.const (Value.pointer none)) 67, .always⟩]
def k9_r12 : List SOp :=
  [⟨some 72, Op.move (Operand.tmp 8), .always⟩,
  ⟨some 73, Op.nilCheck (Operand.tmp 72), .always⟩,
  ⟨some 74, Op.fieldAddr 65 (Operand.tmp 73) 3, .always⟩,
  ⟨some 75, Op.load 61 (Operand.tmp 74), .always⟩,
  ⟨some 76, Op.move (Operand.tmp 11), .always⟩,
  ⟨some 77, Op.move (Operand.tmp 12), .always⟩,
  ⟨none, Op.mapUpdate 61 (Operand.tmp 75) (Operand.tmp 76) (Operand.tmp 77), .always⟩]
def k9_l0 : SC :=
  (.seq (.region k9_r8)
  (.seq (.cond (Operand.tmp 64) .skip (.exit 2))
  (.block 3 (.seq (.region k9_r9)
  (.seq (.region k9_r10)
  (.seq (.region k9_r11)
  (.cond (Operand.tmp 71) (.region k9_r12) .skip)))))))
def k9_r13 : List SOp :=
  [⟨some 78, Op.binOp BinOp.add 3 (Operand.tmp 57) (Operand.const (Value.int IntKind.i64 1)) 3, .always⟩,
  ⟨some 57, Op.move (Operand.tmp 78), .always⟩]
def k9_l1 : SC :=
  (.seq (.region k9_r5)
  (.seq (.cond (Operand.tmp 58) .skip (.exit 0))
  (.seq (.block 1 (.seq (.region k9_r6)
  (.seq (.region k9_r7)
  (.block 2 (.loop k9_l0)))))
  (.region k9_r13))))
def k9_r14 : List SOp :=
  [⟨some 79, Op.move (Operand.tmp 8), .always⟩,
  ⟨some 80, Op.nilCheck (Operand.tmp 79), .always⟩,
  ⟨some 81, Op.fieldAddr 65 (Operand.tmp 80) 3, .always⟩,
  ⟨some 82, Op.load 61 (Operand.tmp 81), .always⟩,
  ⟨some 83, Op.call { callee := Callee.value (Operand.func 26), args := #[Operand.tmp 82], argTypes := #[61] }, .always⟩,
  ⟨some 84, Op.call { callee := Callee.value (Operand.func 25), args := #[Operand.tmp 83], argTypes := #[71] }, .always⟩,
  ⟨some 85, Op.call { callee := Callee.builtin Builtin.len, args := #[Operand.tmp 84], argTypes := #[37] }, .always⟩,
  ⟨some 86, Op.move (Operand.const (Value.int IntKind.i64 0)), .always⟩]
def k9_r15 : List SOp :=
  [⟨some 87, Op.binOp BinOp.lss 3 (Operand.tmp 86) (Operand.tmp 85) 3, .always⟩]
def k9_r16 : List SOp :=
  [⟨some 88, Op.indexAddr 37 (Operand.tmp 84) (Operand.tmp 86), .always⟩,
  ⟨some 89, Op.load 9 (Operand.tmp 88), .always⟩,
  ⟨some 14, Op.assign (Operand.tmp 89), .always⟩]
def k9_r17 : List SOp :=
  [⟨some 90, Op.move (Operand.tmp 8), .always⟩,
  ⟨some 91, Op.move (Operand.tmp 8), .always⟩,
  ⟨some 92, Op.nilCheck (Operand.tmp 91), .always⟩,
  ⟨some 93, Op.fieldAddr 65 (Operand.tmp 92) 3, .always⟩,
  ⟨some 94, Op.load 61 (Operand.tmp 93), .always⟩,
  ⟨some 95, Op.move (Operand.tmp 14), .always⟩,
  ⟨some 96, Op.lookup 61 (Operand.tmp 94) (Operand.tmp 95) false, .always⟩,
  ⟨some 97, Op.call { callee := Callee.value (Operand.func 27), args := #[Operand.tmp 90, Operand.tmp 96], argTypes := #[60, 67] }, .always⟩]
def k9_r18 : List SOp :=
  [⟨some 98, Op.binOp BinOp.add 3 (Operand.tmp 86) (Operand.const (Value.int IntKind.i64 1)) 3, .always⟩,
  ⟨some 86, Op.move (Operand.tmp 98), .always⟩]
def k9_l2 : SC :=
  (.seq (.region k9_r15)
  (.seq (.cond (Operand.tmp 87) .skip (.exit 4))
  (.seq (.block 5 (.seq (.region k9_r16)
  (.region k9_r17)))
  (.region k9_r18))))
def k9_r19 : List SOp :=
  [⟨some 15, Op.alloc 24, .always⟩]
def k9_r20 : List SOp :=
  [⟨some 99, Op.move (Operand.tmp 8), .always⟩,
  ⟨some 100, Op.nilCheck (Operand.tmp 99), .always⟩,
  ⟨some 101, Op.fieldAddr 65 (Operand.tmp 100) 3, .always⟩,
  ⟨some 102, Op.load 61 (Operand.tmp 101), .always⟩,
  ⟨some 103, Op.call { callee := Callee.value (Operand.func 26), args := #[Operand.tmp 102], argTypes := #[61] }, .always⟩,
  ⟨some 104, Op.call { callee := Callee.value (Operand.func 25), args := #[Operand.tmp 103], argTypes := #[71] }, .always⟩,
  ⟨some 105, Op.call { callee := Callee.builtin Builtin.len, args := #[Operand.tmp 104], argTypes := #[37] }, .always⟩,
  ⟨some 106, Op.move (Operand.const (Value.int IntKind.i64 0)), .always⟩]
def k9_r21 : List SOp :=
  [⟨some 107, Op.binOp BinOp.lss 3 (Operand.tmp 106) (Operand.tmp 105) 3, .always⟩]
def k9_r22 : List SOp :=
  [⟨some 108, Op.indexAddr 37 (Operand.tmp 104) (Operand.tmp 106), .always⟩,
  ⟨some 109, Op.load 9 (Operand.tmp 108), .always⟩,
  ⟨some 17, Op.assign (Operand.tmp 109), .always⟩]
def k9_r23 : List SOp :=
  [⟨some 110, Op.fieldAddr 24 (Operand.tmp 15) 0, .always⟩,
  ⟨some 111, Op.load 22 (Operand.tmp 110), .always⟩,
  ⟨some 112, Op.move (Operand.tmp 8), .always⟩,
  ⟨some 113, Op.nilCheck (Operand.tmp 112), .always⟩,
  ⟨some 114, Op.fieldAddr 65 (Operand.tmp 113) 3, .always⟩,
  ⟨some 115, Op.load 61 (Operand.tmp 114), .always⟩,
  ⟨some 116, Op.move (Operand.tmp 17), .always⟩,
  ⟨some 117, Op.lookup 61 (Operand.tmp 115) (Operand.tmp 116) false, .always⟩,
  ⟨some 118, Op.nilCheck (Operand.tmp 117), .always⟩,
  ⟨some 119, Op.load 40 (Operand.tmp 118), .always⟩,
  ⟨some 120, Op.buildSlice 22 1 #[(0, Operand.tmp 119)], .always⟩,
  ⟨some 121, Op.call { callee := Callee.builtin Builtin.append, args := #[Operand.tmp 111, Operand.tmp 120], argTypes := #[22, 22] }, .always⟩,
  ⟨some 122, Op.fieldAddr 24 (Operand.tmp 15) 0, .always⟩,
  ⟨none, Op.store 22 (Operand.tmp 122) (Operand.tmp 121), .always⟩]
def k9_r24 : List SOp :=
  [⟨some 123, Op.binOp BinOp.add 3 (Operand.tmp 106) (Operand.const (Value.int IntKind.i64 1)) 3, .always⟩,
  ⟨some 106, Op.move (Operand.tmp 123), .always⟩]
def k9_l3 : SC :=
  (.seq (.region k9_r21)
  (.seq (.cond (Operand.tmp 107) .skip (.exit 6))
  (.seq (.block 7 (.seq (.region k9_r22)
  (.draw k9_r23 k9_b23)))
  (.region k9_r24))))
def k9_r25 : List SOp :=
  [⟨some 124, Op.move (Operand.tmp 8), .always⟩,
  ⟨some 125, Op.nilCheck (Operand.tmp 124), .always⟩,
  ⟨some 126, Op.fieldAddr 65 (Operand.tmp 125) 4, .always⟩,
  ⟨some 127, Op.load 63 (Operand.tmp 126), .always⟩,
  ⟨some 128, Op.call { callee := Callee.value (Operand.func 29), args := #[Operand.tmp 127], argTypes := #[63] }, .always⟩,
  ⟨some 129, Op.call { callee := Callee.value (Operand.func 28), args := #[Operand.tmp 128, Operand.func 30], argTypes := #[76, 80] }, .always⟩,
  ⟨some 18, Op.assign (Operand.tmp 129), .always⟩]
def k9_r26 : List SOp :=
  [⟨some 130, Op.load 24 (Operand.tmp 15), .always⟩,
  ⟨some 131, Op.move (Operand.tmp 18), .always⟩,
  ⟨none, Op.store 24 (Operand.tmp 6) (Operand.tmp 130), .always⟩,
  ⟨some 7, Op.assign (Operand.tmp 131), .always⟩]
def k9 : SC :=
  (.seq (.region k9_r0)
  (.seq (.seq (.region k9_r1)
  (.cond (Operand.tmp 31) (.seq (.region k9_r2)
  .ret) .skip))
  (.seq (.draw k9_r3 k9_b3)
  (.seq (.seq (.draw k9_r4 k9_b4)
  (.block 0 (.loop k9_l1)))
  (.seq (.seq (.region k9_r14)
  (.block 4 (.loop k9_l2)))
  (.seq (.region k9_r19)
  (.seq (.seq (.region k9_r20)
  (.block 6 (.loop k9_l3)))
  (.seq (.region k9_r25)
  (.seq (.region k9_r26)
  .ret)))))))))
theorem k9_func : Tryz.prog.funcs[9]? = some Tryz.f9 := by kernel_rfl
theorem k9_code : (Tryz.f9.body).map compile = some k9 := by kernel_rfl
theorem k9_tmps : Tryz.f9.ntmps = 132 := by kernel_rfl
theorem k9_res : Tryz.f9.results.toList = [ResultVar.cell 6 24, ResultVar.tmp 7] := by kernel_rfl
theorem hint_9_3 : hintF 9 3 = 1 := by kernel_rfl
theorem hint_9_4 : hintF 9 4 = 1 := by kernel_rfl
theorem hint_9_5 : hintF 9 5 = 1 := by kernel_rfl
theorem hint_9_6 : hintF 9 6 = 1 := by kernel_rfl
theorem hint_9_15 : hintF 9 15 = 1 := by kernel_rfl
theorem hint_9_42 : hintF 9 42 = 0 := by kernel_rfl
theorem hint_9_55 : hintF 9 55 = 0 := by kernel_rfl
theorem hint_9_56 : hintF 9 56 = 0 := by kernel_rfl
theorem hint_9_85 : hintF 9 85 = 0 := by kernel_rfl
theorem hint_9_105 : hintF 9 105 = 0 := by kernel_rfl
theorem hint_9_120 : hintF 9 120 = 0 := by kernel_rfl
theorem hint_9_121 : hintF 9 121 = 0 := by kernel_rfl
/- "planisphere/planispherelaw26.MergeOne" -/
def k4_r0 : List SOp :=
  [⟨some 2, Op.box 24 (Operand.tmp 0), .always⟩,
  ⟨some 3, Op.box 24 (Operand.tmp 1), .always⟩,
  ⟨some 4, Op.assign (Operand.const (Value.bool false)), .always⟩]
def k4_r1 : List SOp :=
  [⟨some 12, Op.call { callee := Callee.value (Operand.func 7), args := #[], argTypes := #[] }, .always⟩,
  ⟨some 5, Op.assign (Operand.tmp 12), .always⟩]
def k4_r2 : List SOp :=
  [⟨some 13, Op.load 24 (Operand.tmp 2), .always⟩,
  ⟨some 14, Op.load 24 (Operand.tmp 3), .always⟩,
  ⟨some 15, Op.load 24 (Operand.tmp 2), .always⟩,
  ⟨some 16, Op.call { callee := Callee.value (Operand.func 8), args := #[Operand.tmp 13, Operand.tmp 14, Operand.tmp 15], argTypes := #[24, 24, 24] }, .always⟩,
  ⟨some 17, Op.unOp UnOp.not 4 (Operand.tmp 16), .always⟩,
  ⟨some 18, Op.move (Operand.tmp 17), .always⟩,
  ⟨some 19, Op.load 24 (Operand.tmp 3), (.when 18 false)⟩,
  ⟨some 20, Op.call { callee := Callee.value (Operand.func 12), args := #[Operand.tmp 19], argTypes := #[24] }, (.when 18 false)⟩,
  ⟨some 21, Op.unOp UnOp.not 4 (Operand.tmp 20), (.when 18 false)⟩,
  ⟨some 22, Op.pick (Operand.tmp 18) (Operand.const (Value.bool true)) (Operand.tmp 21), .always⟩,
  ⟨some 23, Op.move (Operand.tmp 22), .always⟩,
  ⟨some 24, Op.load 24 (Operand.tmp 2), (.when 23 false)⟩,
  ⟨some 25, Op.call { callee := Callee.value (Operand.func 13), args := #[Operand.tmp 24], argTypes := #[24] }, (.when 23 false)⟩,
  ⟨some 26, Op.unOp UnOp.not 4 (Operand.tmp 25), (.when 23 false)⟩,
  ⟨some 27, Op.pick (Operand.tmp 23) (Operand.const (Value.bool true)) (Operand.tmp 26), .always⟩]
def k4_r3 : List SOp :=
  [⟨some 28, Op.move (Operand.tmp 5), .always⟩,
  ⟨some 4, Op.assign (Operand.tmp 28), .always⟩]
def k4_r4 : List SOp :=
  [⟨some 30, Op.load 24 (Operand.tmp 2), .always⟩,
  ⟨some 31, Op.load 24 (Operand.tmp 3), .always⟩,
  ⟨some 32, Op.load 24 (Operand.tmp 2), .always⟩,
  ⟨some 33, Op.call { callee := Callee.value (Operand.func 9), args := #[Operand.tmp 30, Operand.tmp 31, Operand.tmp 32], argTypes := #[24, 24, 24] }, .always⟩,
  ⟨some 29, Op.move (Operand.tmp 33), .always⟩,
  ⟨some 34, Op.extract (Operand.tmp 29) 0, .always⟩,
  ⟨some 35, Op.extract (Operand.tmp 29) 1, .always⟩,
  ⟨some 6, Op.alloc 24, .always⟩,
  ⟨none, Op.store 24 (Operand.tmp 6) (Operand.tmp 34), .always⟩,
  ⟨some 7, Op.assign (Operand.tmp 35), .always⟩]
def k4_r5 : List SOp :=
  [⟨some 37, Op.load 24 (Operand.tmp 2), .always⟩,
  ⟨some 38, Op.load 24 (Operand.tmp 2), .always⟩,
  ⟨some 39, Op.load 24 (Operand.tmp 3), .always⟩,
  ⟨some 40, Op.call { callee := Callee.value (Operand.func 9), args := #[Operand.tmp 37, Operand.tmp 38, Operand.tmp 39], argTypes := #[24, 24, 24] }, .always⟩,
  ⟨some 36, Op.move (Operand.tmp 40), .always⟩,
  ⟨some 41, Op.extract (Operand.tmp 36) 0, .always⟩,
  ⟨some 42, Op.extract (Operand.tmp 36) 1, .always⟩,
  ⟨some 8, Op.alloc 24, .always⟩,
  ⟨none, Op.store 24 (Operand.tmp 8) (Operand.tmp 41), .always⟩,
  ⟨some 9, Op.assign (Operand.tmp 42), .always⟩]
def k4_r6 : List SOp :=
  [⟨some 44, Op.load 24 (Operand.tmp 2), .always⟩,
  ⟨some 45, Op.load 24 (Operand.tmp 3), .always⟩,
  ⟨some 46, Op.load 24 (Operand.tmp 3), .always⟩,
  ⟨some 47, Op.call { callee := Callee.value (Operand.func 9), args := #[Operand.tmp 44, Operand.tmp 45, Operand.tmp 46], argTypes := #[24, 24, 24] }, .always⟩,
  ⟨some 43, Op.move (Operand.tmp 47), .always⟩,
  ⟨some 48, Op.extract (Operand.tmp 43) 0, .always⟩,
  ⟨some 49, Op.extract (Operand.tmp 43) 1, .always⟩,
  ⟨some 10, Op.alloc 24, .always⟩,
  ⟨none, Op.store 24 (Operand.tmp 10) (Operand.tmp 48), .always⟩,
  ⟨some 11, Op.assign (Operand.tmp 49), .always⟩]
def k4_r7 : List SOp :=
  [⟨some 50, Op.move (Operand.tmp 5), .always⟩,
  ⟨some 51, Op.move (Operand.tmp 50), .always⟩,
  ⟨some 52, Op.load 24 (Operand.tmp 6), (.when 51 true)⟩,
  ⟨some 53, Op.load 24 (Operand.tmp 3), (.when 51 true)⟩,
  ⟨some 54, Op.call { callee := Callee.value (Operand.func 10), args := #[Operand.tmp 52, Operand.tmp 53], argTypes := #[24, 24] }, (.when 51 true)⟩,
  ⟨some 55, Op.pick (Operand.tmp 51) (Operand.tmp 54) (Operand.const (Value.bool false)), .always⟩,
  ⟨some 56, Op.move (Operand.tmp 55), .always⟩,
  ⟨some 57, Op.move (Operand.tmp 7), (.when 56 true)⟩,
  ⟨some 58, Op.call { callee := Callee.builtin Builtin.len, args := #[Operand.tmp 57], argTypes := #[27] }, (.when 56 true)⟩,
  ⟨some 59, Op.binOp BinOp.eql 3 (Operand.tmp 58) (Operand.const (Value.int IntKind.i64 0)) 3, (.when 56 true)⟩,
  ⟨some 60, Op.pick (Operand.tmp 56) (Operand.tmp 59) (Operand.const (Value.bool false)), .always⟩,
  ⟨some 61, Op.move (Operand.tmp 60), .always⟩,
  ⟨some 62, Op.load 24 (Operand.tmp 8), (.when 61 true)⟩,
  ⟨some 63, Op.load 24 (Operand.tmp 3), (.when 61 true)⟩,
  ⟨some 64, Op.call { callee := Callee.value (Operand.func 10), args := #[Operand.tmp 62, Operand.tmp 63], argTypes := #[24, 24] }, (.when 61 true)⟩,
  ⟨some 65, Op.pick (Operand.tmp 61) (Operand.tmp 64) (Operand.const (Value.bool false)), .always⟩,
  ⟨some 66, Op.move (Operand.tmp 65), .always⟩,
  ⟨some 67, Op.move (Operand.tmp 9), (.when 66 true)⟩,
  ⟨some 68, Op.call { callee := Callee.builtin Builtin.len, args := #[Operand.tmp 67], argTypes := #[27] }, (.when 66 true)⟩,
  ⟨some 69, Op.binOp BinOp.eql 3 (Operand.tmp 68) (Operand.const (Value.int IntKind.i64 0)) 3, (.when 66 true)⟩,
  ⟨some 70, Op.pick (Operand.tmp 66) (Operand.tmp 69) (Operand.const (Value.bool false)), .always⟩,
  ⟨some 71, Op.move (Operand.tmp 70), .always⟩,
  ⟨some 72, Op.load 24 (Operand.tmp 10), (.when 71 true)⟩,
  ⟨some 73, Op.load 24 (Operand.tmp 3), (.when 71 true)⟩,
  ⟨some 74, Op.call { callee := Callee.value (Operand.func 10), args := #[Operand.tmp 72, Operand.tmp 73], argTypes := #[24, 24] }, (.when 71 true)⟩,
  ⟨some 75, Op.pick (Operand.tmp 71) (Operand.tmp 74) (Operand.const (Value.bool false)), .always⟩,
  ⟨some 76, Op.move (Operand.tmp 75), .always⟩,
  ⟨some 77, Op.move (Operand.tmp 11), (.when 76 true)⟩,
  ⟨some 78, Op.call { callee := Callee.builtin Builtin.len, args := #[Operand.tmp 77], argTypes := #[27] }, (.when 76 true)⟩,
  ⟨some 79, Op.binOp BinOp.eql 3 (Operand.tmp 78) (Operand.const (Value.int IntKind.i64 0)) 3, (.when 76 true)⟩,
  ⟨some 80, Op.pick (Operand.tmp 76) (Operand.tmp 79) (Operand.const (Value.bool false)), .always⟩,
  ⟨some 4, Op.assign (Operand.tmp 80), .always⟩]
def k4 : SC :=
  (.seq (.region k4_r0)
  (.seq (.region k4_r1)
  (.seq (.seq (.region k4_r2)
  (.cond (Operand.tmp 27) (.seq (.region k4_r3)
  .ret) .skip))
  (.seq (.region k4_r4)
  (.seq (.region k4_r5)
  (.seq (.region k4_r6)
  (.seq (.region k4_r7)
  .ret)))))))
theorem k4_func : Tryz.prog.funcs[4]? = some Tryz.f4 := by kernel_rfl
theorem k4_code : (Tryz.f4.body).map compile = some k4 := by kernel_rfl
theorem k4_tmps : Tryz.f4.ntmps = 81 := by kernel_rfl
theorem k4_res : Tryz.f4.results.toList = [ResultVar.tmp 4] := by kernel_rfl
theorem hint_4_2 : hintF 4 2 = 1 := by kernel_rfl
theorem hint_4_3 : hintF 4 3 = 1 := by kernel_rfl
theorem hint_4_6 : hintF 4 6 = 1 := by kernel_rfl
theorem hint_4_8 : hintF 4 8 = 1 := by kernel_rfl
theorem hint_4_10 : hintF 4 10 = 1 := by kernel_rfl
/- "planisphere/planispherelaw26.few" -/
def k8_r0 : List SOp :=
  [⟨some 3, Op.box 24 (Operand.tmp 0), .always⟩,
  ⟨some 4, Op.box 24 (Operand.tmp 1), .always⟩,
  ⟨some 5, Op.box 24 (Operand.tmp 2), .always⟩,
  ⟨some 6, Op.assign (Operand.const (Value.bool false)), .always⟩]
def k8_r1 : List SOp :=
  [⟨some 7, Op.load 24 (Operand.tmp 3), .always⟩,
  ⟨some 8, Op.call { callee := Callee.value (Operand.func 22), args := #[Operand.tmp 7, Operand.const (Value.int IntKind.i64 20)], argTypes := #[24, 3] }, .always⟩,
  ⟨some 9, Op.move (Operand.tmp 8), .always⟩,
  ⟨some 10, Op.load 24 (Operand.tmp 4), (.when 9 true)⟩,
  ⟨some 11, Op.call { callee := Callee.value (Operand.func 22), args := #[Operand.tmp 10, Operand.const (Value.int IntKind.i64 20)], argTypes := #[24, 3] }, (.when 9 true)⟩,
  ⟨some 12, Op.pick (Operand.tmp 9) (Operand.tmp 11) (Operand.const (Value.bool false)), .always⟩,
  ⟨some 13, Op.move (Operand.tmp 12), .always⟩,
  ⟨some 14, Op.load 24 (Operand.tmp 5), (.when 13 true)⟩,
  ⟨some 15, Op.call { callee := Callee.value (Operand.func 22), args := #[Operand.tmp 14, Operand.const (Value.int IntKind.i64 20)], argTypes := #[24, 3] }, (.when 13 true)⟩,
  ⟨some 16, Op.pick (Operand.tmp 13) (Operand.tmp 15) (Operand.const (Value.bool false)), .always⟩,
  ⟨some 6, Op.assign (Operand.tmp 16), .always⟩]
def k8 : SC :=
  (.seq (.region k8_r0)
  (.seq (.region k8_r1)
  .ret))
theorem k8_func : Tryz.prog.funcs[8]? = some Tryz.f8 := by kernel_rfl
theorem k8_code : (Tryz.f8.body).map compile = some k8 := by kernel_rfl
theorem k8_tmps : Tryz.f8.ntmps = 17 := by kernel_rfl
theorem k8_res : Tryz.f8.results.toList = [ResultVar.tmp 6] := by kernel_rfl
theorem hint_8_3 : hintF 8 3 = 1 := by kernel_rfl
theorem hint_8_4 : hintF 8 4 = 1 := by kernel_rfl
theorem hint_8_5 : hintF 8 5 = 1 := by kernel_rfl
/- "maps.Keys[map[planisphere/api.Conflict]bool,planisphere/api.Conflict,bool]" -/
def k29_r0 : List SOp :=
  [⟨some 1, Op.box 63 (Operand.tmp 0), .always⟩,
  ⟨some 2, Op.assign (Operand.const Value.nilFunc), .always⟩]
def k29_r1 : List SOp :=
  [⟨some 3, Op.makeFunc (Fn.func 52) #[] #[Operand.tmp 1], .always⟩,
  ⟨some 2, Op.assign (Operand.tmp 3), .always⟩]
def k29 : SC :=
  (.seq (.region k29_r0)
  (.seq (.region k29_r1)
  .ret))
theorem k29_func : Tryz.prog.funcs[29]? = some Tryz.f29 := by kernel_rfl
theorem k29_code : (Tryz.f29.body).map compile = some k29 := by kernel_rfl
theorem k29_tmps : Tryz.f29.ntmps = 4 := by kernel_rfl
theorem k29_res : Tryz.f29.results.toList = [ResultVar.tmp 2] := by kernel_rfl
theorem hint_29_1 : hintF 29 1 = 0 := by kernel_rfl
theorem bd_36 (ps : List (Nat × Operand)) (e : Env) : buildA Tryz.prog 36 ps e = (zeroA Tryz.prog 36).bind fun z => (fillA (fun i => ([(0, 1), (1, 1)] : List (Nat × Nat))[i]?) e z.cells ps).bind fun c => some (.agg c) := by kernel_rfl
theorem bd_65 (ps : List (Nat × Operand)) (e : Env) : buildA Tryz.prog 65 ps e = (zeroA Tryz.prog 65).bind fun z => (fillA (fun i => ([(0, 1), (1, 1), (2, 1), (3, 1), (4, 1)] : List (Nat × Nat))[i]?) e z.cells ps).bind fun c => some (.agg c) := by kernel_rfl
theorem bd_150 (ps : List (Nat × Operand)) (e : Env) : buildA Tryz.prog 150 ps e = (zeroA Tryz.prog 150).bind fun z => (fillA (fun i => some (i * 1, 1)) e z.cells ps).bind fun c => some (.agg c) := by kernel_rfl
theorem rd_3 (cs : List AVal) (off : Nat) : readCells Tryz.prog 3 cs off = (cs.drop off).head? := by kernel_rfl
theorem rd_5 (cs : List AVal) (off : Nat) : readCells Tryz.prog 5 cs off = (cs.drop off).head? := by kernel_rfl
theorem rd_9 (cs : List AVal) (off : Nat) : readCells Tryz.prog 9 cs off = (cs.drop off).head? := by kernel_rfl
theorem rd_22 (cs : List AVal) (off : Nat) : readCells Tryz.prog 22 cs off = (cs.drop off).head? := by kernel_rfl
theorem rd_24 (cs : List AVal) (off : Nat) : readCells Tryz.prog 24 cs off = (cut cs off 1).bind fun r => some (.agg r) := by kernel_rfl
theorem rd_36 (cs : List AVal) (off : Nat) : readCells Tryz.prog 36 cs off = (cut cs off 2).bind fun r => some (.agg r) := by kernel_rfl
theorem rd_37 (cs : List AVal) (off : Nat) : readCells Tryz.prog 37 cs off = (cs.drop off).head? := by kernel_rfl
theorem rd_38 (cs : List AVal) (off : Nat) : readCells Tryz.prog 38 cs off = (cs.drop off).head? := by kernel_rfl
theorem rd_40 (cs : List AVal) (off : Nat) : readCells Tryz.prog 40 cs off = (cut cs off 6).bind fun r => some (.agg r) := by kernel_rfl
theorem rd_51 (cs : List AVal) (off : Nat) : readCells Tryz.prog 51 cs off = (cut cs off 2).bind fun r => some (.agg r) := by kernel_rfl
theorem rd_61 (cs : List AVal) (off : Nat) : readCells Tryz.prog 61 cs off = (cs.drop off).head? := by kernel_rfl
theorem rd_63 (cs : List AVal) (off : Nat) : readCells Tryz.prog 63 cs off = (cs.drop off).head? := by kernel_rfl
theorem rd_109 (cs : List AVal) (off : Nat) : readCells Tryz.prog 109 cs off = (cs.drop off).head? := by kernel_rfl
theorem sz_9 : sizeA Tryz.prog 9 = some 1 := by kernel_rfl
theorem sz_22 : sizeA Tryz.prog 22 = some 1 := by kernel_rfl
theorem sz_24 : sizeA Tryz.prog 24 = some 1 := by kernel_rfl
theorem sz_40 : sizeA Tryz.prog 40 = some 6 := by kernel_rfl
theorem sz_51 : sizeA Tryz.prog 51 = some 2 := by kernel_rfl
theorem sz_109 : sizeA Tryz.prog 109 = some 1 := by kernel_rfl
theorem sz_150 : sizeA Tryz.prog 150 = some 6 := by kernel_rfl
theorem sz_151 : sizeA Tryz.prog 151 = some 256 := by kernel_rfl
theorem zr_4 : zeroA Tryz.prog 4 = some (.bool false) := by kernel_rfl
theorem zr_9 : zeroA Tryz.prog 9 = some (.str []) := by kernel_rfl
theorem zr_24 : zeroA Tryz.prog 24 = some (.agg [.nils]) := by kernel_rfl
theorem zr_36 : zeroA Tryz.prog 36 = some (.agg [(.int .i64 (0)), (.int .i64 (0))]) := by kernel_rfl
theorem zr_40 : zeroA Tryz.prog 40 = some (.agg [(.str []), (.int .i64 (0)), (.int .i64 (0)), (.int .i64 (0)), .nils, .nils]) := by kernel_rfl
theorem zr_51 : zeroA Tryz.prog 51 = some (.agg [(.str []), (.str [])]) := by kernel_rfl
theorem zr_65 : zeroA Tryz.prog 65 = some (.agg [.nilm, .nilm, .nilm, .nilm, .nilm]) := by kernel_rfl
theorem zr_67 : zeroA Tryz.prog 67 = some .nilp := by kernel_rfl
theorem zr_109 : zeroA Tryz.prog 109 = some .nilm := by kernel_rfl
theorem zr_150 : zeroA Tryz.prog 150 = some (.agg [(.str []), (.str []), (.str []), (.str []), (.str []), (.str [])]) := by kernel_rfl
theorem fa_24_0_l (lc : Ag.Loc) (l g o : Nat) : fieldAddrA Tryz.prog lc 24 (.lref l g o) 0 = bif Nat.beq (lc.gen l) g then some (.lref l g (o + 0)) else none := by kernel_rfl
theorem fa_36_0_l (lc : Ag.Loc) (l g o : Nat) : fieldAddrA Tryz.prog lc 36 (.lref l g o) 0 = bif Nat.beq (lc.gen l) g then some (.lref l g (o + 0)) else none := by kernel_rfl
theorem fa_36_1_l (lc : Ag.Loc) (l g o : Nat) : fieldAddrA Tryz.prog lc 36 (.lref l g o) 1 = bif Nat.beq (lc.gen l) g then some (.lref l g (o + 1)) else none := by kernel_rfl
theorem fa_40_0_l (lc : Ag.Loc) (l g o : Nat) : fieldAddrA Tryz.prog lc 40 (.lref l g o) 0 = bif Nat.beq (lc.gen l) g then some (.lref l g (o + 0)) else none := by kernel_rfl
theorem fa_40_0_r (lc : Ag.Loc) (cs : List AVal) : fieldAddrA Tryz.prog lc 40 (.ro cs) 0 = some (.ro (cs.drop 0)) := by kernel_rfl
theorem fa_40_0_p (lc : Ag.Loc) (m o : Nat) : fieldAddrA Tryz.prog lc 40 (.ptr m o) 0 = some (.ptr m (o + 0)) := by kernel_rfl
theorem fa_40_1_l (lc : Ag.Loc) (l g o : Nat) : fieldAddrA Tryz.prog lc 40 (.lref l g o) 1 = bif Nat.beq (lc.gen l) g then some (.lref l g (o + 1)) else none := by kernel_rfl
theorem fa_40_1_r (lc : Ag.Loc) (cs : List AVal) : fieldAddrA Tryz.prog lc 40 (.ro cs) 1 = some (.ro (cs.drop 1)) := by kernel_rfl
theorem fa_40_1_p (lc : Ag.Loc) (m o : Nat) : fieldAddrA Tryz.prog lc 40 (.ptr m o) 1 = some (.ptr m (o + 1)) := by kernel_rfl
theorem fa_40_2_l (lc : Ag.Loc) (l g o : Nat) : fieldAddrA Tryz.prog lc 40 (.lref l g o) 2 = bif Nat.beq (lc.gen l) g then some (.lref l g (o + 2)) else none := by kernel_rfl
theorem fa_40_2_p (lc : Ag.Loc) (m o : Nat) : fieldAddrA Tryz.prog lc 40 (.ptr m o) 2 = some (.ptr m (o + 2)) := by kernel_rfl
theorem fa_40_3_l (lc : Ag.Loc) (l g o : Nat) : fieldAddrA Tryz.prog lc 40 (.lref l g o) 3 = bif Nat.beq (lc.gen l) g then some (.lref l g (o + 4)) else none := by kernel_rfl
theorem fa_40_3_p (lc : Ag.Loc) (m o : Nat) : fieldAddrA Tryz.prog lc 40 (.ptr m o) 3 = some (.ptr m (o + 4)) := by kernel_rfl
theorem fa_40_4_l (lc : Ag.Loc) (l g o : Nat) : fieldAddrA Tryz.prog lc 40 (.lref l g o) 4 = bif Nat.beq (lc.gen l) g then some (.lref l g (o + 5)) else none := by kernel_rfl
theorem fa_40_4_p (lc : Ag.Loc) (m o : Nat) : fieldAddrA Tryz.prog lc 40 (.ptr m o) 4 = some (.ptr m (o + 5)) := by kernel_rfl
theorem fa_51_0_l (lc : Ag.Loc) (l g o : Nat) : fieldAddrA Tryz.prog lc 51 (.lref l g o) 0 = bif Nat.beq (lc.gen l) g then some (.lref l g (o + 0)) else none := by kernel_rfl
theorem fa_51_0_r (lc : Ag.Loc) (cs : List AVal) : fieldAddrA Tryz.prog lc 51 (.ro cs) 0 = some (.ro (cs.drop 0)) := by kernel_rfl
theorem fa_51_1_l (lc : Ag.Loc) (l g o : Nat) : fieldAddrA Tryz.prog lc 51 (.lref l g o) 1 = bif Nat.beq (lc.gen l) g then some (.lref l g (o + 1)) else none := by kernel_rfl
theorem fa_51_1_r (lc : Ag.Loc) (cs : List AVal) : fieldAddrA Tryz.prog lc 51 (.ro cs) 1 = some (.ro (cs.drop 1)) := by kernel_rfl
theorem fa_65_0_p (lc : Ag.Loc) (m o : Nat) : fieldAddrA Tryz.prog lc 65 (.ptr m o) 0 = some (.ptr m (o + 0)) := by kernel_rfl
theorem fa_65_1_p (lc : Ag.Loc) (m o : Nat) : fieldAddrA Tryz.prog lc 65 (.ptr m o) 1 = some (.ptr m (o + 1)) := by kernel_rfl
theorem fa_65_2_p (lc : Ag.Loc) (m o : Nat) : fieldAddrA Tryz.prog lc 65 (.ptr m o) 2 = some (.ptr m (o + 2)) := by kernel_rfl
theorem fa_65_3_p (lc : Ag.Loc) (m o : Nat) : fieldAddrA Tryz.prog lc 65 (.ptr m o) 3 = some (.ptr m (o + 3)) := by kernel_rfl
theorem fa_65_4_p (lc : Ag.Loc) (m o : Nat) : fieldAddrA Tryz.prog lc 65 (.ptr m o) 4 = some (.ptr m (o + 4)) := by kernel_rfl
theorem ia_22_l (lc : Ag.Loc) (n : Nat) (xs : List AVal) (r : Right) (i : AVal) : indexAddrA Tryz.prog lc 22 (.list n xs r) i = (natOf i).bind fun i => bif Nat.beq n 6 && Nat.blt i xs.length then some (.ro (nthL xs i).cells) else none := by kernel_rfl
theorem ia_37_l (lc : Ag.Loc) (n : Nat) (xs : List AVal) (r : Right) (i : AVal) : indexAddrA Tryz.prog lc 37 (.list n xs r) i = (natOf i).bind fun i => bif Nat.beq n 1 && Nat.blt i xs.length then some (.ro (nthL xs i).cells) else none := by kernel_rfl
theorem ia_38_l (lc : Ag.Loc) (n : Nat) (xs : List AVal) (r : Right) (i : AVal) : indexAddrA Tryz.prog lc 38 (.list n xs r) i = (natOf i).bind fun i => bif Nat.beq n 2 && Nat.blt i xs.length then some (.ro (nthL xs i).cells) else none := by kernel_rfl
theorem ia_66_l (lc : Ag.Loc) (n : Nat) (xs : List AVal) (r : Right) (i : AVal) : indexAddrA Tryz.prog lc 66 (.list n xs r) i = (natOf i).bind fun i => bif Nat.beq n 1 && Nat.blt i xs.length then some (.ro (nthL xs i).cells) else none := by kernel_rfl
theorem ia_151_l (lc : Ag.Loc) (l g o : Nat) (i : AVal) : indexAddrA Tryz.prog lc 151 (.lref l g o) i = (natOf i).bind fun i => bif Nat.blt i 256 then bif Nat.beq (lc.gen l) g then some (.lref l g (o + i * 1)) else none else none := by kernel_rfl
theorem ix_9 (s : List UInt8) (i : AVal) : indexA Tryz.prog 9 (.str s) i = (natOf i).bind fun i => match s.drop i with | b :: _ => some (.int .u8 b.toNat) | [] => none := by kernel_rfl
theorem ln_9 (mk : Mask) (b : List UInt8) (s : St) : lenA Tryz.prog mk 9 (.str b) s = some (.int .i64 b.length) := by kernel_rfl
theorem ln_22_n (mk : Mask) (s : St) : lenA Tryz.prog mk 22 .nils s = some (.int .i64 (0 : Nat)) := by kernel_rfl
theorem ln_22_l (mk : Mask) (n : Nat) (xs : List AVal) (r : Right) (s : St) : lenA Tryz.prog mk 22 (.list n xs r) s = some (.int .i64 xs.length) := by kernel_rfl
theorem ln_27_n (mk : Mask) (s : St) : lenA Tryz.prog mk 27 .nils s = some (.int .i64 (0 : Nat)) := by kernel_rfl
theorem ln_37_n (mk : Mask) (s : St) : lenA Tryz.prog mk 37 .nils s = some (.int .i64 (0 : Nat)) := by kernel_rfl
theorem ln_37_l (mk : Mask) (n : Nat) (xs : List AVal) (r : Right) (s : St) : lenA Tryz.prog mk 37 (.list n xs r) s = some (.int .i64 xs.length) := by kernel_rfl
theorem ln_38_n (mk : Mask) (s : St) : lenA Tryz.prog mk 38 .nils s = some (.int .i64 (0 : Nat)) := by kernel_rfl
theorem ln_38_l (mk : Mask) (n : Nat) (xs : List AVal) (r : Right) (s : St) : lenA Tryz.prog mk 38 (.list n xs r) s = some (.int .i64 xs.length) := by kernel_rfl
theorem ln_66_l (mk : Mask) (n : Nat) (xs : List AVal) (r : Right) (s : St) : lenA Tryz.prog mk 66 (.list n xs r) s = some (.int .i64 xs.length) := by kernel_rfl
theorem el_22 : sliceElem Tryz.prog 22 = some ⟨6, 88, true, (.agg [(.str []), (.int .i64 (0)), (.int .i64 (0)), (.int .i64 (0)), .nils, .nils])⟩ := by kernel_rfl
theorem is_22 : isSliceT Tryz.prog 22 = true := by kernel_rfl
theorem el_66 : sliceElem Tryz.prog 66 = some ⟨1, 8, false, .nilm⟩ := by kernel_rfl
theorem mp_61 (k : List UInt8) : keyType Tryz.prog 61 (.str k) = some (9, 67) := by kernel_rfl
theorem eq_9 (a b : List UInt8) : eqT Tryz.prog 8 9 (.str a) (.str b) = some (a == b) := by kernel_rfl
theorem mp_109 (k : List UInt8) : keyType Tryz.prog 109 (.str k) = some (9, 4) := by kernel_rfl
end Go.Proofs.YtbfmdojdemckbaaGreat
/- Contracts: tables of them; IndexByteString, which has no body. -/
namespace Go.Proofs.YtbfmdojdemckbaaGreat
open Go.Ag

abbrev Sp := List AVal → Option AVal
abbrev Tbl := List (Nat × Sp)
def tblGet (f : Nat) : Tbl → Option Sp
  | [] => none
  | (k, v) :: l => bif Nat.beq k f then some v else tblGet f l
noncomputable def QT (t : Tbl) : Prog := QS fun f => tblGet f t
def TblOk (t : Tbl) : Prop := ∀ p ∈ t, SpecOk Tryz.prog p.1 p.2

theorem tblGet_mem {f : Nat} {sp : Sp} : ∀ {t : Tbl}, tblGet f t = some sp → (f, sp) ∈ t
  | [], h => by cases h
  | (k, v) :: l, h => by
    simp only [tblGet] at h
    cases hk : Nat.beq k f with
    | true =>
      rw [hk] at h
      injection h with h; subst h
      have := Nat.eq_of_beq_eq_true hk
      subst this
      exact List.mem_cons_self
    | false =>
      rw [hk] at h
      exact List.mem_cons_of_mem _ (tblGet_mem h)

theorem names_ok : Tryz.prog.funcs.toList.all (fun fn => !(fn.name == "runtime.NumGoroutine")) = true := by kernel_rfl
theorem mixed_ok : Tryz.prog.follows .mixedOrders = true := by kernel_rfl

theorem good_of {t : Tbl} (h : TblOk t) : Good (QT t) where
  mixed := mixed_ok
  spec f sp hsp args v hv G hp w xs wr hx := h _ (tblGet_mem hsp) args v hv G hp w xs wr hx
  specH f sp h := by cases h
  names f fn hf := by
    have hf : Tryz.prog.funcs[f]? = some fn := hf
    have := List.all_eq_true.1 names_ok fn (by
      rw [← Array.getElem?_toList] at hf
      exact List.mem_of_getElem? hf)
    simpa using this

theorem TblOk.nil : TblOk [] := fun _ h => by cases h
theorem TblOk.cons {f : Nat} {sp : Sp} {t : Tbl} (h : SpecOk Tryz.prog f sp) (ht : TblOk t) : TblOk ((f, sp) :: t) := by
  intro p hp
  rcases List.mem_cons.1 hp with rfl | hp
  · exact h
  · exact ht p hp

/-- the first place of a byte -/
def idxB (c : Nat) : List UInt8 → Nat → Int
  | [], _ => -1
  | b :: l, i => bif Nat.beq b.toNat c then (i : Int) else idxB c l (i + 1)
def sp322 : Sp
  | [.str s, .int .u8 (.ofNat c)] => bif Nat.blt c 256 then some (.int .i64 (idxB c s 0)) else none
  | _ => none

theorem idxB_first (c : Nat) (hc : c < 256) : ∀ (l : List UInt8) (i : Nat), idxB c l i = match (List.range l.length).find? (fun j => l[j]! == c.toUInt8) with | some j => ((i + j : Nat) : Int) | none => -1
  | [], i => rfl
  | b :: l, i => by
    rw [idxB, List.length_cons, List.range_succ_eq_map, List.find?_cons]
    have hb : ((b :: l)[0]! == c.toUInt8) = Nat.beq b.toNat c := by
      show (b == c.toUInt8) = _
      cases h : Nat.beq b.toNat c with
      | true =>
        have := Nat.eq_of_beq_eq_true h
        subst this
        simp
      | false =>
        have := Nat.ne_of_beq_eq_false h
        apply beq_eq_false_iff_ne.2
        intro e
        apply this
        rw [e]
        simp [Nat.mod_eq_of_lt hc]
    rw [hb]
    cases h : Nat.beq b.toNat c with
    | true => simp
    | false =>
      simp only [cond_false]
      rw [idxB_first c hc l (i + 1), List.find?_map]
      have hf : ((fun j => (b :: l)[j]! == c.toUInt8) ∘ Nat.succ) = fun j => l[j]! == c.toUInt8 := by
        funext j
        simp [Function.comp]
      rw [hf]
      cases (List.range l.length).find? (fun j => l[j]! == c.toUInt8) with
      | none => rfl
      | some j => simp only [Option.map_some]; show ((i + 1 + j : Nat) : Int) = ((i + (j + 1) : Nat) : Int); congr 1; omega

theorem sp322_ok : SpecOk Tryz.prog 241 sp322 := by
  intro args v hv G h w xs wr hx
  unfold sp322 at hv
  split at hv
  · rename_i s c
    obtain ⟨hc, hv⟩ := bif_none hv
    injection hv with hv; subst hv
    have hc : c < 256 := Nat.le_of_ble_eq_true hc
    cases hx with
    | cons a b =>
      cases b with
      | cons b d =>
        cases d
        cases a
        cases b
        refine .inl ⟨.int .i64 (firstIdx ⟨⟨s⟩⟩ c.toUInt8), w, ?_, G, wr, .refl, ?_⟩
        · have := run_callFunc_extern (P := Tryz.prog) (f := 241) (fn := Tryz.f241) (e := Extern.BytealgIndexByte.indexByte) (by kernel_rfl) (by kernel_rfl) (by kernel_rfl) (by kernel_rfl) (by kernel_rfl) #[.string ⟨⟨s⟩⟩, .int .u8 (.ofNat c)] w
          rw [show (⟨[Value.string ⟨⟨s⟩⟩, .int .u8 (.ofNat c)]⟩ : Array Value) = #[.string ⟨⟨s⟩⟩, .int .u8 (.ofNat c)] from rfl, this, run_indexByte_string]
          rfl
        · have : firstIdx ⟨⟨s⟩⟩ c.toUInt8 = idxB c s 0 := by
            rw [idxB_first c hc]
            unfold firstIdx
            have h1 : (⟨⟨s⟩⟩ : ByteArray).size = s.length := rfl
            rw [h1]
            have h2 : (fun i => (⟨⟨s⟩⟩ : ByteArray)[i]! == c.toUInt8) = fun (j : Nat) => s[j]! == c.toUInt8 := by
              funext i
              congr 1
              by_cases hi : i < s.length
              · rw [getElem!_pos (⟨⟨s⟩⟩ : ByteArray) i hi, getElem!_pos s i hi]; rfl
              · rw [getElem!_neg (⟨⟨s⟩⟩ : ByteArray) i hi, getElem!_neg s i hi]
            rw [h2]
            cases (List.range s.length).find? (fun (j : Nat) => s[j]! == c.toUInt8) <;> simp
          rw [this]
          exact .int _ _
  · cases hv
end Go.Proofs.YtbfmdojdemckbaaGreat
