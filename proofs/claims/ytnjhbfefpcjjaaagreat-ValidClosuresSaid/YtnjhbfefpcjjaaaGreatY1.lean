/- The program as the evaluator takes it; codes of its functions; tables of contracts. -/
import Derived.Test.YtnjhbfefpcjjaaaGreatAg8
import Derived.Test.YtnjhbfefpcjjaaaGreatProg
import Derived.KernelRfl
import Derived.Laws.Externs
/- The program as the evaluator takes it: hints. -/
namespace Go.Proofs.YtnjhbfefpcjjaaaGreat
open Go.Ag
def hintL (n : Nat) : List (Nat × Nat) → Nat
  | [] => 0
  | (k, v) :: l => bif Nat.beq k n then v else hintL n l
def hintTab : List (Nat × List (Nat × Nat)) := [
(3, [(4, 1), (5, 1), (7, 1)]),
(4, [(3, 1), (4, 1)]),
(5, [(2, 1), (6, 1)]),
(6, [(2, 1), (3, 1), (7, 1), (12, 1), (16, 1)]),
(8, [(3, 1), (4, 1), (5, 1), (10, 1)]),
(9, [(1, 1), (3, 1), (6, 1), (7, 1)]),
(10, [(3, 1), (4, 1)]),
(12, [(2, 1), (10, 1), (14, 1)]),
(13, [(2, 1), (3, 1)]),
(14, [(2, 1), (3, 1)]),
(15, [(2, 1), (4, 1), (10, 1), (12, 1)]),
(16, [(2, 1), (4, 1), (9, 1), (11, 1)]),
(17, [(2, 1), (3, 1)]),
(18, [(2, 1), (3, 1)]),
(19, [(3, 1), (4, 1)]),
(20, [(3, 1), (4, 1), (5, 1)]),
(21, [(3, 1)]),
(22, [(2, 1), (6, 1)]),
(23, [(1, 1), (5, 1)]),
(24, [(2, 1), (4, 1)]),
(25, [(3, 1), (4, 1)]),
(26, [(1, 1)]),
(27, [(2, 1)]),
(28, [(2, 1), (3, 1), (4, 1), (8, 1)]),
(30, [(0, 1)]),
(32, [(2, 1)]),
(33, [(2, 1), (7, 1), (10, 1)]),
(34, [(1, 1), (6, 1)]),
(35, [(1, 1), (3, 1), (10, 1), (13, 1), (19, 1), (21, 1), (176, 2)]),
(36, [(1, 1)]),
(37, [(1, 1), (8, 1)]),
(38, [(1, 1)]),
(39, [(3, 1), (4, 1)]),
(40, [(2, 1), (3, 1)]),
(41, [(1, 1), (5, 1)]),
(44, [(3, 1), (4, 1), (5, 1), (9, 1), (11, 1)]),
(45, [(2, 1)]),
(47, [(3, 1), (4, 1), (5, 1), (10, 1)]),
(49, [(2, 1)]),
(51, [(1, 1)]),
(53, [(2, 1)]),
(55, [(2, 1)]),
(59, [(6, 1)]),
(60, [(2, 1), (7, 1), (10, 1)]),
(61, [(1, 1)]),
(62, [(1, 1), (2, 1), (4, 1), (6, 1)]),
(63, [(1, 1), (5, 1), (10, 1), (12, 1), (93, 2)]),
(65, [(2, 1), (4, 1)]),
(67, [(11, 1), (15, 1)]),
(68, [(2, 1), (7, 1)]),
(71, [(2, 1), (3, 1)]),
(73, [(1, 1), (5, 1), (7, 1), (11, 1)]),
(74, [(25, 2)]),
(77, [(3, 1), (4, 1), (6, 1), (8, 1), (9, 1), (10, 1)]),
(78, [(1, 1), (6, 1), (8, 1)]),
(79, [(3, 1), (7, 1)]),
(80, [(3, 1)]),
(81, [(3, 1)]),
(82, [(1, 1)]),
(83, [(2, 1), (4, 1), (5, 1)]),
(84, [(2, 1), (3, 1)]),
(85, [(1, 1)]),
(86, [(1, 1)]),
(87, [(1, 1)]),
(88, [(2, 1)]),
(92, [(2, 1)]),
(93, [(3, 1)]),
(94, [(3, 1)]),
(95, [(5, 1)]),
(99, [(1, 1)]),
(100, [(7, 1)]),
(101, [(2, 1)]),
(102, [(1, 1)]),
(106, [(1, 1)]),
(108, [(2, 1)]),
(115, [(3, 1)]),
(117, [(2, 1), (3, 1)]),
(120, [(6, 1), (12, 1), (92, 2), (97, 2)]),
(121, [(2, 1), (3, 1)]),
(125, [(1, 1), (2, 1), (3, 1), (4, 1), (5, 1), (7, 1)]),
(133, [(4, 1), (5, 1), (6, 1), (8, 1)]),
(134, [(4, 1)]),
(136, [(1, 1)]),
(139, [(1, 1)]),
(140, [(1, 1)]),
(141, [(2, 1)]),
(143, [(1, 1), (5, 1)]),
(144, [(2, 1), (3, 1)]),
(145, [(3, 1)]),
(146, [(4, 1)]),
(147, [(2, 1)]),
(148, [(2, 1)]),
(149, [(1, 1)]),
(151, [(2, 1)]),
(152, [(2, 1), (3, 1)]),
(153, [(2, 1), (3, 1)]),
(154, [(2, 1), (8, 1)]),
(156, [(0, 1), (1, 1)]),
(158, [(7, 1)]),
(165, [(1, 1)]),
(166, [(1, 1)]),
(167, [(3, 1)]),
(168, [(3, 1), (6, 1), (8, 1), (10, 1), (12, 1)]),
(172, [(4, 1)]),
(174, [(2, 1), (3, 1)]),
(175, [(7, 1)]),
(176, [(2, 1)]),
(177, [(2, 1), (3, 1)]),
(179, [(2, 1), (3, 1)]),
(180, [(4, 1)]),
(181, [(1, 1), (2, 1)]),
(182, [(3, 1), (4, 1), (5, 1)]),
(183, [(2, 1), (3, 1), (5, 1), (6, 1)]),
(198, [(3, 1), (5, 1)]),
(208, [(4, 1)]),
(209, [(7, 1)]),
(210, [(1, 1), (2, 1)]),
(211, [(3, 1), (4, 1), (5, 1), (7, 1)]),
(212, [(1, 1)]),
(213, [(2, 1), (3, 1)]),
(214, [(5, 1), (6, 1), (10, 1)]),
(215, [(2, 1), (3, 1)]),
(216, [(1, 1), (2, 1)]),
(217, [(2, 1)]),
(218, [(2, 1), (7, 1)]),
(220, [(4, 1)]),
(221, [(10, 1)]),
(222, [(2, 1)]),
(223, [(4, 1)]),
(226, [(3, 1), (4, 1), (5, 1)]),
(227, [(2, 1), (3, 1)]),
(236, [(3, 1)]),
(250, [(2, 1), (3, 1)]),
(251, [(2, 1), (3, 1), (4, 1)]),
(252, [(2, 1), (3, 1)]),
(253, [(2, 1), (3, 1)]),
(260, [(1, 1)]),
(261, [(1, 1)]),
(273, [(3, 1), (4, 1), (5, 1)]),
(275, [(2, 1)]),
(276, [(1, 1)]),
(277, [(2, 1), (3, 1)]),
(278, [(2, 1), (3, 1)]),
(279, [(3, 1), (4, 1), (5, 1)]),
(282, [(3, 1), (7, 1)]),
(283, [(1, 1)]),
(284, [(3, 1)]),
(286, [(3, 1), (6, 1), (8, 1)]),
(287, [(2, 1)]),
(307, [(4, 1)]),
(314, [(1, 1)]),
(315, [(3, 1), (4, 1), (5, 1)]),
(317, [(2, 1), (3, 1)]),
(318, [(3, 1), (4, 1), (5, 1)]),
(320, [(2, 1), (3, 1)]),
(321, [(3, 1)])]
def hintOfTab (f t : Nat) : List (Nat × List (Nat × Nat)) → Nat
  | [] => 0
  | (k, v) :: l => bif Nat.beq k f then hintL t v else hintOfTab f t l
def hintF (f : FuncId) (t : Tmp) : Nat := hintOfTab f t hintTab
/-- the program with contracts -/
noncomputable def QS (sp : FuncId → Option (List AVal → Option AVal)) : Prog := { P := Tryz.prog, hint := hintF, spec := sp, ch := fun _ => 0, kmax := 2 }
theorem QS_P (sp : FuncId → Option (List AVal → Option AVal)) : (QS sp).P = Tryz.prog := rfl
theorem QS_hint (sp : FuncId → Option (List AVal → Option AVal)) : (QS sp).hint = hintF := rfl
theorem QS_spec (sp : FuncId → Option (List AVal → Option AVal)) : (QS sp).spec = sp := rfl
end Go.Proofs.YtnjhbfefpcjjaaaGreat
/- Codes of functions, facts on types (printed by gen2.py). -/
namespace Go.Proofs.YtnjhbfefpcjjaaaGreat
open Go.Ag
/- "planisphere/planispherelaw20.ValidClosures" -/
def k5_b26 : List Nat := [0, 0, 2, 6, 15, 31, 63, 127, 63, 63, 575, 2047, 4095, 63, 8255, 63, 63, 65599, 254015, 516159, 1048575, 2097151, 4194303]
def k5_b29 : List Nat := [0, 1, 3, 3, 11, 27, 63, 127, 255, 511, 511, 2047, 511, 8191, 16383, 32767, 65535, 65535, 262143, 65535, 1048575, 2097151, 4194303]
def k5_r0 : List SOp :=
  [⟨some 2, Op.box 24 (Operand.tmp 0), .always⟩,
  ⟨some 4, Op.assign (Operand.const (Value.bool false)), .always⟩]
def k5_r1 : List SOp :=
  [⟨some 14, Op.call { callee := Callee.value (Operand.func 9), args := #[], argTypes := #[] }, .always⟩,
  ⟨some 5, Op.assign (Operand.tmp 14), .always⟩]
def k5_r2 : List SOp :=
  [⟨some 15, Op.load 24 (Operand.tmp 2), .always⟩,
  ⟨some 16, Op.call { callee := Callee.value (Operand.func 22), args := #[Operand.tmp 15, Operand.const (Value.int IntKind.i64 40)], argTypes := #[24, 3] }, .always⟩,
  ⟨some 17, Op.unOp UnOp.not 4 (Operand.tmp 16), .always⟩,
  ⟨some 18, Op.move (Operand.tmp 17), .always⟩,
  ⟨some 19, Op.move (Operand.tmp 1), (.when 18 false)⟩,
  ⟨some 20, Op.call { callee := Callee.builtin Builtin.len, args := #[Operand.tmp 19], argTypes := #[25] }, (.when 18 false)⟩,
  ⟨some 21, Op.binOp BinOp.gtr 3 (Operand.tmp 20) (Operand.const (Value.int IntKind.i64 30)) 3, (.when 18 false)⟩,
  ⟨some 22, Op.pick (Operand.tmp 18) (Operand.const (Value.bool true)) (Operand.tmp 21), .always⟩]
def k5_r3 : List SOp :=
  [⟨some 23, Op.move (Operand.tmp 5), .always⟩,
  ⟨some 4, Op.assign (Operand.tmp 23), .always⟩]
def k5_r4 : List SOp :=
  [⟨some 24, Op.load 24 (Operand.tmp 2), .always⟩,
  ⟨some 25, Op.move (Operand.tmp 1), .always⟩,
  ⟨some 26, Op.call { callee := Callee.value (Operand.func 15), args := #[Operand.tmp 24, Operand.tmp 25], argTypes := #[24, 25] }, .always⟩,
  ⟨some 6, Op.alloc 24, .always⟩,
  ⟨none, Op.store 24 (Operand.tmp 6) (Operand.tmp 26), .always⟩]
def k5_r5 : List SOp :=
  [⟨some 27, Op.load 24 (Operand.tmp 2), .always⟩,
  ⟨some 28, Op.call { callee := Callee.value (Operand.func 23), args := #[Operand.tmp 27], argTypes := #[24] }, .always⟩,
  ⟨some 29, Op.unOp UnOp.not 4 (Operand.tmp 28), .always⟩]
def k5_r6 : List SOp :=
  [⟨some 30, Op.move (Operand.tmp 5), .always⟩,
  ⟨some 31, Op.move (Operand.tmp 30), .always⟩,
  ⟨some 32, Op.fieldAddr 24 (Operand.tmp 6) 0, (.when 31 true)⟩,
  ⟨some 33, Op.load 22 (Operand.tmp 32), (.when 31 true)⟩,
  ⟨some 34, Op.call { callee := Callee.builtin Builtin.len, args := #[Operand.tmp 33], argTypes := #[22] }, (.when 31 true)⟩,
  ⟨some 35, Op.binOp BinOp.eql 3 (Operand.tmp 34) (Operand.const (Value.int IntKind.i64 0)) 3, (.when 31 true)⟩,
  ⟨some 36, Op.pick (Operand.tmp 31) (Operand.tmp 35) (Operand.const (Value.bool false)), .always⟩,
  ⟨some 4, Op.assign (Operand.tmp 36), .always⟩]
def k5_r7 : List SOp :=
  [⟨some 37, Op.makeMap 46 none, .always⟩,
  ⟨some 7, Op.assign (Operand.tmp 37), .always⟩]
def k5_r8 : List SOp :=
  [⟨some 8, Op.assign (Operand.const (Value.int IntKind.i64 0)), .always⟩]
def k5_r9 : List SOp :=
  [⟨some 38, Op.move (Operand.tmp 8), .always⟩,
  ⟨some 39, Op.move (Operand.tmp 1), .always⟩,
  ⟨some 40, Op.call { callee := Callee.builtin Builtin.len, args := #[Operand.tmp 39], argTypes := #[25] }, .always⟩,
  ⟨some 41, Op.binOp BinOp.lss 3 (Operand.tmp 38) (Operand.tmp 40) 3, .always⟩]
def k5_r11 : List SOp :=
  [⟨some 44, Op.move (Operand.tmp 7), .always⟩,
  ⟨some 45, Op.move (Operand.tmp 1), .always⟩,
  ⟨some 46, Op.move (Operand.tmp 8), .always⟩,
  ⟨some 47, Op.indexAddr 25 (Operand.tmp 45) (Operand.tmp 46), .always⟩,
  ⟨some 48, Op.load 9 (Operand.tmp 47), .always⟩,
  ⟨none, Op.mapUpdate 46 (Operand.tmp 44) (Operand.tmp 48) (Operand.const (Value.bool true)), .always⟩]
def k5_r10 : List SOp :=
  [⟨some 42, Op.move (Operand.tmp 8), .always⟩,
  ⟨some 43, Op.binOp BinOp.add 3 (Operand.tmp 42) (Operand.const (Value.int IntKind.i64 1)) 3, .always⟩,
  ⟨some 8, Op.assign (Operand.tmp 43), .always⟩]
def k5_l0 : SC :=
  (.seq (.seq (.region k5_r9)
  (.cond (Operand.tmp 41) .skip (.exit 0)))
  (.seq (.block 1 (.region k5_r11))
  (.region k5_r10)))
def k5_r12 : List SOp :=
  [⟨some 9, Op.assign (Operand.const (Value.slice none 0 0)), .always⟩]
def k5_r13 : List SOp :=
  [⟨some 10, Op.assign (Operand.const (Value.int IntKind.i64 0)), .always⟩]
def k5_r14 : List SOp :=
  [⟨some 49, Op.move (Operand.tmp 10), .always⟩,
  ⟨some 50, Op.fieldAddr 24 (Operand.tmp 6) 0, .always⟩,
  ⟨some 51, Op.load 22 (Operand.tmp 50), .always⟩,
  ⟨some 52, Op.call { callee := Callee.builtin Builtin.len, args := #[Operand.tmp 51], argTypes := #[22] }, .always⟩,
  ⟨some 53, Op.binOp BinOp.lss 3 (Operand.tmp 49) (Operand.tmp 52) 3, .always⟩]
def k5_r16 : List SOp :=
  [⟨some 56, Op.move (Operand.tmp 9), .always⟩,
  ⟨some 57, Op.fieldAddr 24 (Operand.tmp 6) 0, .always⟩,
  ⟨some 58, Op.load 22 (Operand.tmp 57), .always⟩,
  ⟨some 59, Op.move (Operand.tmp 10), .always⟩,
  ⟨some 60, Op.indexAddr 22 (Operand.tmp 58) (Operand.tmp 59), .always⟩,
  ⟨some 61, Op.fieldAddr 51 (Operand.tmp 60) 0, .always⟩,
  ⟨some 62, Op.load 9 (Operand.tmp 61), .always⟩,
  ⟨some 63, Op.buildSlice 25 1 #[(0, Operand.tmp 62)], .always⟩,
  ⟨some 64, Op.call { callee := Callee.builtin Builtin.append, args := #[Operand.tmp 56, Operand.tmp 63], argTypes := #[25, 25] }, .always⟩,
  ⟨some 9, Op.assign (Operand.tmp 64), .always⟩]
def k5_r17 : List SOp :=
  [⟨some 11, Op.assign (Operand.const (Value.int IntKind.i64 0)), .always⟩]
def k5_r18 : List SOp :=
  [⟨some 65, Op.move (Operand.tmp 11), .always⟩,
  ⟨some 66, Op.fieldAddr 24 (Operand.tmp 6) 0, .always⟩,
  ⟨some 67, Op.load 22 (Operand.tmp 66), .always⟩,
  ⟨some 68, Op.move (Operand.tmp 10), .always⟩,
  ⟨some 69, Op.indexAddr 22 (Operand.tmp 67) (Operand.tmp 68), .always⟩,
  ⟨some 70, Op.fieldAddr 51 (Operand.tmp 69) 3, .always⟩,
  ⟨some 71, Op.load 25 (Operand.tmp 70), .always⟩,
  ⟨some 72, Op.call { callee := Callee.builtin Builtin.len, args := #[Operand.tmp 71], argTypes := #[25] }, .always⟩,
  ⟨some 73, Op.binOp BinOp.lss 3 (Operand.tmp 65) (Operand.tmp 72) 3, .always⟩]
def k5_r20 : List SOp :=
  [⟨some 76, Op.move (Operand.tmp 7), .always⟩,
  ⟨some 77, Op.fieldAddr 24 (Operand.tmp 6) 0, .always⟩,
  ⟨some 78, Op.load 22 (Operand.tmp 77), .always⟩,
  ⟨some 79, Op.move (Operand.tmp 10), .always⟩,
  ⟨some 80, Op.indexAddr 22 (Operand.tmp 78) (Operand.tmp 79), .always⟩,
  ⟨some 81, Op.fieldAddr 51 (Operand.tmp 80) 3, .always⟩,
  ⟨some 82, Op.load 25 (Operand.tmp 81), .always⟩,
  ⟨some 83, Op.move (Operand.tmp 11), .always⟩,
  ⟨some 84, Op.indexAddr 25 (Operand.tmp 82) (Operand.tmp 83), .always⟩,
  ⟨some 85, Op.load 9 (Operand.tmp 84), .always⟩,
  ⟨none, Op.mapUpdate 46 (Operand.tmp 76) (Operand.tmp 85) (Operand.const (Value.bool true)), .always⟩]
def k5_r19 : List SOp :=
  [⟨some 74, Op.move (Operand.tmp 11), .always⟩,
  ⟨some 75, Op.binOp BinOp.add 3 (Operand.tmp 74) (Operand.const (Value.int IntKind.i64 1)) 3, .always⟩,
  ⟨some 11, Op.assign (Operand.tmp 75), .always⟩]
def k5_l1 : SC :=
  (.seq (.seq (.region k5_r18)
  (.cond (Operand.tmp 73) .skip (.exit 4)))
  (.seq (.block 5 (.region k5_r20))
  (.region k5_r19)))
def k5_r15 : List SOp :=
  [⟨some 54, Op.move (Operand.tmp 10), .always⟩,
  ⟨some 55, Op.binOp BinOp.add 3 (Operand.tmp 54) (Operand.const (Value.int IntKind.i64 1)) 3, .always⟩,
  ⟨some 10, Op.assign (Operand.tmp 55), .always⟩]
def k5_l2 : SC :=
  (.seq (.seq (.region k5_r14)
  (.cond (Operand.tmp 53) .skip (.exit 2)))
  (.seq (.block 3 (.seq (.region k5_r16)
  (.seq (.region k5_r17)
  (.block 4 (.loop k5_l1)))))
  (.region k5_r15)))
def k5_r21 : List SOp :=
  [⟨some 12, Op.assign (Operand.const (Value.int IntKind.i64 0)), .always⟩]
def k5_r22 : List SOp :=
  [⟨some 13, Op.assign (Operand.const (Value.int IntKind.i64 0)), .always⟩]
def k5_r23 : List SOp :=
  [⟨some 86, Op.move (Operand.tmp 13), .always⟩,
  ⟨some 87, Op.fieldAddr 24 (Operand.tmp 2) 0, .always⟩,
  ⟨some 88, Op.load 22 (Operand.tmp 87), .always⟩,
  ⟨some 89, Op.call { callee := Callee.builtin Builtin.len, args := #[Operand.tmp 88], argTypes := #[22] }, .always⟩,
  ⟨some 90, Op.binOp BinOp.lss 3 (Operand.tmp 86) (Operand.tmp 89) 3, .always⟩]
def k5_r25 : List SOp :=
  [⟨some 93, Op.move (Operand.tmp 7), .always⟩,
  ⟨some 94, Op.fieldAddr 24 (Operand.tmp 2) 0, .always⟩,
  ⟨some 95, Op.load 22 (Operand.tmp 94), .always⟩,
  ⟨some 96, Op.move (Operand.tmp 13), .always⟩,
  ⟨some 97, Op.indexAddr 22 (Operand.tmp 95) (Operand.tmp 96), .always⟩,
  ⟨some 98, Op.fieldAddr 51 (Operand.tmp 97) 0, .always⟩,
  ⟨some 99, Op.load 9 (Operand.tmp 98), .always⟩,
  ⟨some 100, Op.lookup 46 (Operand.tmp 93) (Operand.tmp 99) false, .always⟩,
  ⟨some 101, Op.unOp UnOp.not 4 (Operand.tmp 100), .always⟩]
def k5_r26 : List SOp :=
  [⟨some 102, Op.move (Operand.tmp 12), .always⟩,
  ⟨some 103, Op.fieldAddr 24 (Operand.tmp 6) 0, .always⟩,
  ⟨some 104, Op.load 22 (Operand.tmp 103), .always⟩,
  ⟨some 105, Op.call { callee := Callee.builtin Builtin.len, args := #[Operand.tmp 104], argTypes := #[22] }, .always⟩,
  ⟨some 106, Op.binOp BinOp.geq 3 (Operand.tmp 102) (Operand.tmp 105) 3, .always⟩,
  ⟨some 107, Op.move (Operand.tmp 106), .always⟩,
  ⟨some 108, Op.fieldAddr 24 (Operand.tmp 2) 0, (.when 107 false)⟩,
  ⟨some 109, Op.load 22 (Operand.tmp 108), (.when 107 false)⟩,
  ⟨some 110, Op.move (Operand.tmp 13), (.when 107 false)⟩,
  ⟨some 111, Op.move (Operand.tmp 13), (.when 107 false)⟩,
  ⟨some 112, Op.binOp BinOp.add 3 (Operand.tmp 111) (Operand.const (Value.int IntKind.i64 1)) 3, (.when 107 false)⟩,
  ⟨some 113, Op.slice 22 (Operand.tmp 109) (some (Operand.tmp 110)) (some (Operand.tmp 112)) none, (.when 107 false)⟩,
  ⟨some 114, Op.build 24 #[(0, Operand.tmp 113)], (.when 107 false)⟩,
  ⟨some 115, Op.fieldAddr 24 (Operand.tmp 6) 0, (.when 107 false)⟩,
  ⟨some 116, Op.load 22 (Operand.tmp 115), (.when 107 false)⟩,
  ⟨some 117, Op.move (Operand.tmp 12), (.when 107 false)⟩,
  ⟨some 118, Op.move (Operand.tmp 12), (.when 107 false)⟩,
  ⟨some 119, Op.binOp BinOp.add 3 (Operand.tmp 118) (Operand.const (Value.int IntKind.i64 1)) 3, (.when 107 false)⟩,
  ⟨some 120, Op.slice 22 (Operand.tmp 116) (some (Operand.tmp 117)) (some (Operand.tmp 119)) none, (.when 107 false)⟩,
  ⟨some 121, Op.build 24 #[(0, Operand.tmp 120)], (.when 107 false)⟩,
  ⟨some 122, Op.call { callee := Callee.value (Operand.func 14), args := #[Operand.tmp 114, Operand.tmp 121], argTypes := #[24, 24] }, (.when 107 false)⟩,
  ⟨some 123, Op.unOp UnOp.not 4 (Operand.tmp 122), (.when 107 false)⟩,
  ⟨some 124, Op.pick (Operand.tmp 107) (Operand.const (Value.bool true)) (Operand.tmp 123), .always⟩]
def k5_r27 : List SOp :=
  [⟨some 4, Op.assign (Operand.const (Value.bool false)), .always⟩]
def k5_r28 : List SOp :=
  [⟨some 125, Op.move (Operand.tmp 12), .always⟩,
  ⟨some 126, Op.binOp BinOp.add 3 (Operand.tmp 125) (Operand.const (Value.int IntKind.i64 1)) 3, .always⟩,
  ⟨some 12, Op.assign (Operand.tmp 126), .always⟩]
def k5_r24 : List SOp :=
  [⟨some 91, Op.move (Operand.tmp 13), .always⟩,
  ⟨some 92, Op.binOp BinOp.add 3 (Operand.tmp 91) (Operand.const (Value.int IntKind.i64 1)) 3, .always⟩,
  ⟨some 13, Op.assign (Operand.tmp 92), .always⟩]
def k5_l3 : SC :=
  (.seq (.seq (.region k5_r23)
  (.cond (Operand.tmp 90) .skip (.exit 6)))
  (.seq (.block 7 (.seq (.seq (.region k5_r25)
  (.cond (Operand.tmp 101) (.exit 7) .skip))
  (.seq (.seq (.draw k5_r26 k5_b26)
  (.cond (Operand.tmp 124) (.seq (.region k5_r27)
  .ret) .skip))
  (.region k5_r28))))
  (.region k5_r24)))
def k5_r29 : List SOp :=
  [⟨some 127, Op.move (Operand.tmp 5), .always⟩,
  ⟨some 128, Op.move (Operand.tmp 127), .always⟩,
  ⟨some 129, Op.move (Operand.tmp 12), (.when 128 true)⟩,
  ⟨some 130, Op.fieldAddr 24 (Operand.tmp 6) 0, (.when 128 true)⟩,
  ⟨some 131, Op.load 22 (Operand.tmp 130), (.when 128 true)⟩,
  ⟨some 132, Op.call { callee := Callee.builtin Builtin.len, args := #[Operand.tmp 131], argTypes := #[22] }, (.when 128 true)⟩,
  ⟨some 133, Op.binOp BinOp.eql 3 (Operand.tmp 129) (Operand.tmp 132) 3, (.when 128 true)⟩,
  ⟨some 134, Op.pick (Operand.tmp 128) (Operand.tmp 133) (Operand.const (Value.bool false)), .always⟩,
  ⟨some 135, Op.move (Operand.tmp 134), .always⟩,
  ⟨some 136, Op.load 24 (Operand.tmp 2), (.when 135 true)⟩,
  ⟨some 137, Op.move (Operand.tmp 9), (.when 135 true)⟩,
  ⟨some 138, Op.call { callee := Callee.value (Operand.func 15), args := #[Operand.tmp 136, Operand.tmp 137], argTypes := #[24, 25] }, (.when 135 true)⟩,
  ⟨some 139, Op.load 24 (Operand.tmp 6), (.when 135 true)⟩,
  ⟨some 140, Op.call { callee := Callee.value (Operand.func 14), args := #[Operand.tmp 138, Operand.tmp 139], argTypes := #[24, 24] }, (.when 135 true)⟩,
  ⟨some 141, Op.pick (Operand.tmp 135) (Operand.tmp 140) (Operand.const (Value.bool false)), .always⟩,
  ⟨some 142, Op.move (Operand.tmp 141), .always⟩,
  ⟨some 143, Op.load 24 (Operand.tmp 6), (.when 142 true)⟩,
  ⟨some 144, Op.move (Operand.tmp 1), (.when 142 true)⟩,
  ⟨some 145, Op.call { callee := Callee.value (Operand.func 15), args := #[Operand.tmp 143, Operand.tmp 144], argTypes := #[24, 25] }, (.when 142 true)⟩,
  ⟨some 146, Op.load 24 (Operand.tmp 6), (.when 142 true)⟩,
  ⟨some 147, Op.call { callee := Callee.value (Operand.func 14), args := #[Operand.tmp 145, Operand.tmp 146], argTypes := #[24, 24] }, (.when 142 true)⟩,
  ⟨some 148, Op.pick (Operand.tmp 142) (Operand.tmp 147) (Operand.const (Value.bool false)), .always⟩,
  ⟨some 4, Op.assign (Operand.tmp 148), .always⟩]
def k5 : SC :=
  (.seq (.region k5_r0)
  (.seq (.region k5_r1)
  (.seq (.seq (.region k5_r2)
  (.cond (Operand.tmp 22) (.seq (.region k5_r3)
  .ret) .skip))
  (.seq (.region k5_r4)
  (.seq (.seq (.region k5_r5)
  (.cond (Operand.tmp 29) (.seq (.region k5_r6)
  .ret) .skip))
  (.seq (.region k5_r7)
  (.seq (.seq (.region k5_r8)
  (.block 0 (.loop k5_l0)))
  (.seq (.region k5_r12)
  (.seq (.seq (.region k5_r13)
  (.block 2 (.loop k5_l2)))
  (.seq (.region k5_r21)
  (.seq (.seq (.region k5_r22)
  (.block 6 (.loop k5_l3)))
  (.seq (.draw k5_r29 k5_b29)
  .ret))))))))))))
theorem k5_func : Tryz.prog.funcs[5]? = some Tryz.f5 := by kernel_rfl
theorem k5_code : (Tryz.f5.body).map compile = some k5 := by kernel_rfl
theorem k5_tmps : Tryz.f5.ntmps = 149 := by kernel_rfl
theorem k5_res : Tryz.f5.results.toList = [ResultVar.tmp 4] := by kernel_rfl
theorem hint_5_2 : hintF 5 2 = 1 := by kernel_rfl
theorem hint_5_6 : hintF 5 6 = 1 := by kernel_rfl
theorem hint_5_14 : hintF 5 14 = 0 := by kernel_rfl
theorem hint_5_16 : hintF 5 16 = 0 := by kernel_rfl
theorem hint_5_20 : hintF 5 20 = 0 := by kernel_rfl
theorem hint_5_26 : hintF 5 26 = 0 := by kernel_rfl
theorem hint_5_28 : hintF 5 28 = 0 := by kernel_rfl
theorem hint_5_34 : hintF 5 34 = 0 := by kernel_rfl
theorem hint_5_40 : hintF 5 40 = 0 := by kernel_rfl
theorem hint_5_52 : hintF 5 52 = 0 := by kernel_rfl
theorem hint_5_63 : hintF 5 63 = 0 := by kernel_rfl
theorem hint_5_64 : hintF 5 64 = 0 := by kernel_rfl
theorem hint_5_72 : hintF 5 72 = 0 := by kernel_rfl
theorem hint_5_89 : hintF 5 89 = 0 := by kernel_rfl
theorem hint_5_105 : hintF 5 105 = 0 := by kernel_rfl
theorem hint_5_122 : hintF 5 122 = 0 := by kernel_rfl
theorem hint_5_132 : hintF 5 132 = 0 := by kernel_rfl
theorem hint_5_138 : hintF 5 138 = 0 := by kernel_rfl
theorem hint_5_140 : hintF 5 140 = 0 := by kernel_rfl
theorem hint_5_145 : hintF 5 145 = 0 := by kernel_rfl
theorem hint_5_147 : hintF 5 147 = 0 := by kernel_rfl
/- "planisphere/planisphereref12.Same" -/
def k14_b6 : List Nat := [0, 1, 0, 7, 15, 0, 32, 0, 224, 480, 1023, 2047]
def k14_r0 : List SOp :=
  [⟨some 2, Op.box 24 (Operand.tmp 0), .always⟩,
  ⟨some 3, Op.box 24 (Operand.tmp 1), .always⟩,
  ⟨some 4, Op.assign (Operand.const (Value.bool false)), .always⟩]
def k14_r1 : List SOp :=
  [⟨some 6, Op.fieldAddr 24 (Operand.tmp 2) 0, .always⟩,
  ⟨some 7, Op.load 22 (Operand.tmp 6), .always⟩,
  ⟨some 8, Op.call { callee := Callee.builtin Builtin.len, args := #[Operand.tmp 7], argTypes := #[22] }, .always⟩,
  ⟨some 9, Op.fieldAddr 24 (Operand.tmp 3) 0, .always⟩,
  ⟨some 10, Op.load 22 (Operand.tmp 9), .always⟩,
  ⟨some 11, Op.call { callee := Callee.builtin Builtin.len, args := #[Operand.tmp 10], argTypes := #[22] }, .always⟩,
  ⟨some 12, Op.binOp BinOp.neq 3 (Operand.tmp 8) (Operand.tmp 11) 3, .always⟩]
def k14_r2 : List SOp :=
  [⟨some 4, Op.assign (Operand.const (Value.bool false)), .always⟩]
def k14_r3 : List SOp :=
  [⟨some 5, Op.assign (Operand.const (Value.int IntKind.i64 0)), .always⟩]
def k14_r4 : List SOp :=
  [⟨some 13, Op.move (Operand.tmp 5), .always⟩,
  ⟨some 14, Op.fieldAddr 24 (Operand.tmp 2) 0, .always⟩,
  ⟨some 15, Op.load 22 (Operand.tmp 14), .always⟩,
  ⟨some 16, Op.call { callee := Callee.builtin Builtin.len, args := #[Operand.tmp 15], argTypes := #[22] }, .always⟩,
  ⟨some 17, Op.binOp BinOp.lss 3 (Operand.tmp 13) (Operand.tmp 16) 3, .always⟩]
def k14_r6 : List SOp :=
  [⟨some 20, Op.fieldAddr 24 (Operand.tmp 2) 0, .always⟩,
  ⟨some 21, Op.load 22 (Operand.tmp 20), .always⟩,
  ⟨some 22, Op.move (Operand.tmp 5), .always⟩,
  ⟨some 23, Op.indexAddr 22 (Operand.tmp 21) (Operand.tmp 22), .always⟩,
  ⟨some 24, Op.load 51 (Operand.tmp 23), .always⟩,
  ⟨some 25, Op.fieldAddr 24 (Operand.tmp 3) 0, .always⟩,
  ⟨some 26, Op.load 22 (Operand.tmp 25), .always⟩,
  ⟨some 27, Op.move (Operand.tmp 5), .always⟩,
  ⟨some 28, Op.indexAddr 22 (Operand.tmp 26) (Operand.tmp 27), .always⟩,
  ⟨some 29, Op.load 51 (Operand.tmp 28), .always⟩,
  ⟨some 30, Op.call { callee := Callee.value (Operand.func 40), args := #[Operand.tmp 24, Operand.tmp 29], argTypes := #[51, 51] }, .always⟩,
  ⟨some 31, Op.unOp UnOp.not 4 (Operand.tmp 30), .always⟩]
def k14_r7 : List SOp :=
  [⟨some 4, Op.assign (Operand.const (Value.bool false)), .always⟩]
def k14_r5 : List SOp :=
  [⟨some 18, Op.move (Operand.tmp 5), .always⟩,
  ⟨some 19, Op.binOp BinOp.add 3 (Operand.tmp 18) (Operand.const (Value.int IntKind.i64 1)) 3, .always⟩,
  ⟨some 5, Op.assign (Operand.tmp 19), .always⟩]
def k14_l0 : SC :=
  (.seq (.seq (.region k14_r4)
  (.cond (Operand.tmp 17) .skip (.exit 0)))
  (.seq (.block 1 (.seq (.draw k14_r6 k14_b6)
  (.cond (Operand.tmp 31) (.seq (.region k14_r7)
  .ret) .skip)))
  (.region k14_r5)))
def k14_r8 : List SOp :=
  [⟨some 4, Op.assign (Operand.const (Value.bool true)), .always⟩]
def k14 : SC :=
  (.seq (.region k14_r0)
  (.seq (.seq (.region k14_r1)
  (.cond (Operand.tmp 12) (.seq (.region k14_r2)
  .ret) .skip))
  (.seq (.seq (.region k14_r3)
  (.block 0 (.loop k14_l0)))
  (.seq (.region k14_r8)
  .ret))))
theorem k14_func : Tryz.prog.funcs[14]? = some Tryz.f14 := by kernel_rfl
theorem k14_code : (Tryz.f14.body).map compile = some k14 := by kernel_rfl
theorem k14_tmps : Tryz.f14.ntmps = 32 := by kernel_rfl
theorem k14_res : Tryz.f14.results.toList = [ResultVar.tmp 4] := by kernel_rfl
theorem hint_14_2 : hintF 14 2 = 1 := by kernel_rfl
theorem hint_14_3 : hintF 14 3 = 1 := by kernel_rfl
theorem hint_14_8 : hintF 14 8 = 0 := by kernel_rfl
theorem hint_14_11 : hintF 14 11 = 0 := by kernel_rfl
theorem hint_14_16 : hintF 14 16 = 0 := by kernel_rfl
theorem hint_14_30 : hintF 14 30 = 0 := by kernel_rfl
/- "planisphere/valid.Close" -/
def k15_r0 : List SOp :=
  [⟨some 2, Op.box 24 (Operand.tmp 0), .always⟩,
  ⟨some 4, Op.alloc 24, .always⟩]
def k15_r1 : List SOp :=
  [⟨some 13, Op.load 24 (Operand.tmp 2), .always⟩,
  ⟨some 14, Op.call { callee := Callee.value (Operand.func 23), args := #[Operand.tmp 13], argTypes := #[24] }, .always⟩,
  ⟨some 15, Op.unOp UnOp.not 4 (Operand.tmp 14), .always⟩]
def k15_r2 : List SOp :=
  [⟨some 16, Op.build 24 #[], .always⟩,
  ⟨none, Op.store 24 (Operand.tmp 4) (Operand.tmp 16), .always⟩]
def k15_r3 : List SOp :=
  [⟨some 17, Op.load 24 (Operand.tmp 2), .always⟩,
  ⟨some 18, Op.call { callee := Callee.value (Operand.func 41), args := #[Operand.tmp 17], argTypes := #[24] }, .always⟩,
  ⟨some 5, Op.alloc 72, .always⟩,
  ⟨none, Op.store 72 (Operand.tmp 5) (Operand.tmp 18), .always⟩]
def k15_r4 : List SOp :=
  [⟨some 19, Op.makeMap 46 none, .always⟩,
  ⟨some 6, Op.alloc 46, .always⟩,
  ⟨none, Op.store 46 (Operand.tmp 6) (Operand.tmp 19), .always⟩]
def k15_r5 : List SOp :=
  [⟨some 7, Op.alloc 74, .always⟩]
def k15_r6 : List SOp :=
  [⟨some 20, Op.makeFunc (Fn.func 42) #[] #[Operand.tmp 6, Operand.tmp 5, Operand.tmp 7], .always⟩,
  ⟨none, Op.store 74 (Operand.tmp 7) (Operand.tmp 20), .always⟩]
def k15_r7 : List SOp :=
  [⟨some 21, Op.move (Operand.tmp 1), .always⟩,
  ⟨some 22, Op.call { callee := Callee.builtin Builtin.len, args := #[Operand.tmp 21], argTypes := #[25] }, .always⟩,
  ⟨some 23, Op.move (Operand.const (Value.int IntKind.i64 0)), .always⟩]
def k15_r8 : List SOp :=
  [⟨some 24, Op.binOp BinOp.lss 3 (Operand.tmp 23) (Operand.tmp 22) 3, .always⟩]
def k15_r9 : List SOp :=
  [⟨some 25, Op.indexAddr 25 (Operand.tmp 21) (Operand.tmp 23), .always⟩,
  ⟨some 26, Op.load 9 (Operand.tmp 25), .always⟩,
  ⟨some 9, Op.assign (Operand.tmp 26), .always⟩]
def k15_r10 : List SOp :=
  [⟨some 27, Op.load 74 (Operand.tmp 7), .always⟩,
  ⟨some 28, Op.move (Operand.tmp 9), .always⟩,
  ⟨some 29, Op.call { callee := Callee.value (Operand.tmp 27), args := #[Operand.tmp 28], argTypes := #[9] }, .always⟩]
def k15_r11 : List SOp :=
  [⟨some 30, Op.binOp BinOp.add 3 (Operand.tmp 23) (Operand.const (Value.int IntKind.i64 1)) 3, .always⟩,
  ⟨some 23, Op.move (Operand.tmp 30), .always⟩]
def k15_l0 : SC :=
  (.seq (.region k15_r8)
  (.seq (.cond (Operand.tmp 24) .skip (.exit 0))
  (.seq (.block 1 (.seq (.region k15_r9)
  (.region k15_r10)))
  (.region k15_r11))))
def k15_r12 : List SOp :=
  [⟨some 10, Op.alloc 24, .always⟩]
def k15_r13 : List SOp :=
  [⟨some 31, Op.fieldAddr 24 (Operand.tmp 2) 0, .always⟩,
  ⟨some 32, Op.load 22 (Operand.tmp 31), .always⟩,
  ⟨some 33, Op.call { callee := Callee.builtin Builtin.len, args := #[Operand.tmp 32], argTypes := #[22] }, .always⟩,
  ⟨some 34, Op.move (Operand.const (Value.int IntKind.i64 0)), .always⟩]
def k15_r14 : List SOp :=
  [⟨some 35, Op.binOp BinOp.lss 3 (Operand.tmp 34) (Operand.tmp 33) 3, .always⟩]
def k15_r15 : List SOp :=
  [⟨some 36, Op.indexAddr 22 (Operand.tmp 32) (Operand.tmp 34), .always⟩,
  ⟨some 37, Op.load 51 (Operand.tmp 36), .always⟩,
  ⟨some 12, Op.alloc 51, .always⟩,
  ⟨none, Op.store 51 (Operand.tmp 12) (Operand.tmp 37), .always⟩]
def k15_r16 : List SOp :=
  [⟨some 38, Op.load 46 (Operand.tmp 6), .always⟩,
  ⟨some 39, Op.fieldAddr 51 (Operand.tmp 12) 0, .always⟩,
  ⟨some 40, Op.load 9 (Operand.tmp 39), .always⟩,
  ⟨some 41, Op.lookup 46 (Operand.tmp 38) (Operand.tmp 40) false, .always⟩]
def k15_r17 : List SOp :=
  [⟨some 42, Op.fieldAddr 24 (Operand.tmp 10) 0, .always⟩,
  ⟨some 43, Op.load 22 (Operand.tmp 42), .always⟩,
  ⟨some 44, Op.load 51 (Operand.tmp 12), .always⟩,
  ⟨some 45, Op.buildSlice 22 1 #[(0, Operand.tmp 44)], .always⟩,
  ⟨some 46, Op.call { callee := Callee.builtin Builtin.append, args := #[Operand.tmp 43, Operand.tmp 45], argTypes := #[22, 22] }, .always⟩,
  ⟨some 47, Op.fieldAddr 24 (Operand.tmp 10) 0, .always⟩,
  ⟨none, Op.store 22 (Operand.tmp 47) (Operand.tmp 46), .always⟩]
def k15_r18 : List SOp :=
  [⟨some 48, Op.binOp BinOp.add 3 (Operand.tmp 34) (Operand.const (Value.int IntKind.i64 1)) 3, .always⟩,
  ⟨some 34, Op.move (Operand.tmp 48), .always⟩]
def k15_l1 : SC :=
  (.seq (.region k15_r14)
  (.seq (.cond (Operand.tmp 35) .skip (.exit 2))
  (.seq (.block 3 (.seq (.region k15_r15)
  (.seq (.region k15_r16)
  (.cond (Operand.tmp 41) (.region k15_r17) .skip))))
  (.region k15_r18))))
def k15_r19 : List SOp :=
  [⟨some 49, Op.load 24 (Operand.tmp 10), .always⟩,
  ⟨none, Op.store 24 (Operand.tmp 4) (Operand.tmp 49), .always⟩]
def k15 : SC :=
  (.seq (.region k15_r0)
  (.seq (.seq (.region k15_r1)
  (.cond (Operand.tmp 15) (.seq (.region k15_r2)
  .ret) .skip))
  (.seq (.region k15_r3)
  (.seq (.region k15_r4)
  (.seq (.region k15_r5)
  (.seq (.region k15_r6)
  (.seq (.seq (.region k15_r7)
  (.block 0 (.loop k15_l0)))
  (.seq (.region k15_r12)
  (.seq (.seq (.region k15_r13)
  (.block 2 (.loop k15_l1)))
  (.seq (.region k15_r19)
  .ret))))))))))
theorem k15_func : Tryz.prog.funcs[15]? = some Tryz.f15 := by kernel_rfl
theorem k15_code : (Tryz.f15.body).map compile = some k15 := by kernel_rfl
theorem k15_tmps : Tryz.f15.ntmps = 50 := by kernel_rfl
theorem k15_res : Tryz.f15.results.toList = [ResultVar.cell 4 24] := by kernel_rfl
theorem hint_15_2 : hintF 15 2 = 1 := by kernel_rfl
theorem hint_15_4 : hintF 15 4 = 1 := by kernel_rfl
theorem hint_15_5 : hintF 15 5 = 0 := by kernel_rfl
theorem hint_15_6 : hintF 15 6 = 0 := by kernel_rfl
theorem hint_15_7 : hintF 15 7 = 0 := by kernel_rfl
theorem hint_15_10 : hintF 15 10 = 1 := by kernel_rfl
theorem hint_15_12 : hintF 15 12 = 1 := by kernel_rfl
theorem hint_15_14 : hintF 15 14 = 0 := by kernel_rfl
theorem hint_15_18 : hintF 15 18 = 0 := by kernel_rfl
theorem hint_15_22 : hintF 15 22 = 0 := by kernel_rfl
theorem hint_15_29 : hintF 15 29 = 0 := by kernel_rfl
theorem hint_15_33 : hintF 15 33 = 0 := by kernel_rfl
theorem hint_15_45 : hintF 15 45 = 0 := by kernel_rfl
theorem hint_15_46 : hintF 15 46 = 0 := by kernel_rfl
/- "planisphere/planisphereref13.Few" -/
def k22_b17 : List Nat := [0, 1, 0, 7, 15, 31, 63, 0, 128, 0, 896, 1920, 3968, 8064, 16383, 32767]
def k22_r0 : List SOp :=
  [⟨some 2, Op.box 24 (Operand.tmp 0), .always⟩,
  ⟨some 4, Op.assign (Operand.const (Value.bool false)), .always⟩]
def k22_r1 : List SOp :=
  [⟨some 9, Op.fieldAddr 24 (Operand.tmp 2) 0, .always⟩,
  ⟨some 10, Op.load 22 (Operand.tmp 9), .always⟩,
  ⟨some 11, Op.call { callee := Callee.builtin Builtin.len, args := #[Operand.tmp 10], argTypes := #[22] }, .always⟩,
  ⟨some 12, Op.move (Operand.tmp 1), .always⟩,
  ⟨some 13, Op.binOp BinOp.gtr 3 (Operand.tmp 11) (Operand.tmp 12) 3, .always⟩]
def k22_r2 : List SOp :=
  [⟨some 4, Op.assign (Operand.const (Value.bool false)), .always⟩]
def k22_r3 : List SOp :=
  [⟨some 5, Op.assign (Operand.const (Value.int IntKind.i64 0)), .always⟩]
def k22_r4 : List SOp :=
  [⟨some 14, Op.move (Operand.tmp 5), .always⟩,
  ⟨some 15, Op.fieldAddr 24 (Operand.tmp 2) 0, .always⟩,
  ⟨some 16, Op.load 22 (Operand.tmp 15), .always⟩,
  ⟨some 17, Op.call { callee := Callee.builtin Builtin.len, args := #[Operand.tmp 16], argTypes := #[22] }, .always⟩,
  ⟨some 18, Op.binOp BinOp.lss 3 (Operand.tmp 14) (Operand.tmp 17) 3, .always⟩]
def k22_r6 : List SOp :=
  [⟨some 21, Op.fieldAddr 24 (Operand.tmp 2) 0, .always⟩,
  ⟨some 22, Op.load 22 (Operand.tmp 21), .always⟩,
  ⟨some 23, Op.move (Operand.tmp 5), .always⟩,
  ⟨some 24, Op.indexAddr 22 (Operand.tmp 22) (Operand.tmp 23), .always⟩,
  ⟨some 25, Op.load 51 (Operand.tmp 24), .always⟩,
  ⟨some 6, Op.alloc 51, .always⟩,
  ⟨none, Op.store 51 (Operand.tmp 6) (Operand.tmp 25), .always⟩]
def k22_r7 : List SOp :=
  [⟨some 26, Op.fieldAddr 51 (Operand.tmp 6) 3, .always⟩,
  ⟨some 27, Op.load 25 (Operand.tmp 26), .always⟩,
  ⟨some 28, Op.call { callee := Callee.builtin Builtin.len, args := #[Operand.tmp 27], argTypes := #[25] }, .always⟩,
  ⟨some 29, Op.binOp BinOp.gtr 3 (Operand.tmp 28) (Operand.const (Value.int IntKind.i64 12)) 3, .always⟩,
  ⟨some 30, Op.move (Operand.tmp 29), .always⟩,
  ⟨some 31, Op.fieldAddr 51 (Operand.tmp 6) 4, (.when 30 false)⟩,
  ⟨some 32, Op.load 49 (Operand.tmp 31), (.when 30 false)⟩,
  ⟨some 33, Op.call { callee := Callee.builtin Builtin.len, args := #[Operand.tmp 32], argTypes := #[49] }, (.when 30 false)⟩,
  ⟨some 34, Op.binOp BinOp.gtr 3 (Operand.tmp 33) (Operand.const (Value.int IntKind.i64 20)) 3, (.when 30 false)⟩,
  ⟨some 35, Op.pick (Operand.tmp 30) (Operand.const (Value.bool true)) (Operand.tmp 34), .always⟩,
  ⟨some 36, Op.move (Operand.tmp 35), .always⟩,
  ⟨some 37, Op.fieldAddr 51 (Operand.tmp 6) 0, (.when 36 false)⟩,
  ⟨some 38, Op.load 9 (Operand.tmp 37), (.when 36 false)⟩,
  ⟨some 39, Op.call { callee := Callee.builtin Builtin.len, args := #[Operand.tmp 38], argTypes := #[9] }, (.when 36 false)⟩,
  ⟨some 40, Op.binOp BinOp.gtr 3 (Operand.tmp 39) (Operand.const (Value.int IntKind.i64 60)) 3, (.when 36 false)⟩,
  ⟨some 41, Op.pick (Operand.tmp 36) (Operand.const (Value.bool true)) (Operand.tmp 40), .always⟩]
def k22_r8 : List SOp :=
  [⟨some 4, Op.assign (Operand.const (Value.bool false)), .always⟩]
def k22_r9 : List SOp :=
  [⟨some 7, Op.assign (Operand.const (Value.int IntKind.i64 0)), .always⟩]
def k22_r10 : List SOp :=
  [⟨some 42, Op.move (Operand.tmp 7), .always⟩,
  ⟨some 43, Op.fieldAddr 51 (Operand.tmp 6) 3, .always⟩,
  ⟨some 44, Op.load 25 (Operand.tmp 43), .always⟩,
  ⟨some 45, Op.call { callee := Callee.builtin Builtin.len, args := #[Operand.tmp 44], argTypes := #[25] }, .always⟩,
  ⟨some 46, Op.binOp BinOp.lss 3 (Operand.tmp 42) (Operand.tmp 45) 3, .always⟩]
def k22_r12 : List SOp :=
  [⟨some 49, Op.fieldAddr 51 (Operand.tmp 6) 3, .always⟩,
  ⟨some 50, Op.load 25 (Operand.tmp 49), .always⟩,
  ⟨some 51, Op.move (Operand.tmp 7), .always⟩,
  ⟨some 52, Op.indexAddr 25 (Operand.tmp 50) (Operand.tmp 51), .always⟩,
  ⟨some 53, Op.load 9 (Operand.tmp 52), .always⟩,
  ⟨some 54, Op.call { callee := Callee.builtin Builtin.len, args := #[Operand.tmp 53], argTypes := #[9] }, .always⟩,
  ⟨some 55, Op.binOp BinOp.gtr 3 (Operand.tmp 54) (Operand.const (Value.int IntKind.i64 60)) 3, .always⟩]
def k22_r13 : List SOp :=
  [⟨some 4, Op.assign (Operand.const (Value.bool false)), .always⟩]
def k22_r11 : List SOp :=
  [⟨some 47, Op.move (Operand.tmp 7), .always⟩,
  ⟨some 48, Op.binOp BinOp.add 3 (Operand.tmp 47) (Operand.const (Value.int IntKind.i64 1)) 3, .always⟩,
  ⟨some 7, Op.assign (Operand.tmp 48), .always⟩]
def k22_l0 : SC :=
  (.seq (.seq (.region k22_r10)
  (.cond (Operand.tmp 46) .skip (.exit 2)))
  (.seq (.block 3 (.seq (.region k22_r12)
  (.cond (Operand.tmp 55) (.seq (.region k22_r13)
  .ret) .skip)))
  (.region k22_r11)))
def k22_r14 : List SOp :=
  [⟨some 8, Op.assign (Operand.const (Value.int IntKind.i64 0)), .always⟩]
def k22_r15 : List SOp :=
  [⟨some 56, Op.move (Operand.tmp 8), .always⟩,
  ⟨some 57, Op.fieldAddr 51 (Operand.tmp 6) 4, .always⟩,
  ⟨some 58, Op.load 49 (Operand.tmp 57), .always⟩,
  ⟨some 59, Op.call { callee := Callee.builtin Builtin.len, args := #[Operand.tmp 58], argTypes := #[49] }, .always⟩,
  ⟨some 60, Op.binOp BinOp.lss 3 (Operand.tmp 56) (Operand.tmp 59) 3, .always⟩]
def k22_r17 : List SOp :=
  [⟨some 63, Op.fieldAddr 51 (Operand.tmp 6) 4, .always⟩,
  ⟨some 64, Op.load 49 (Operand.tmp 63), .always⟩,
  ⟨some 65, Op.move (Operand.tmp 8), .always⟩,
  ⟨some 66, Op.indexAddr 49 (Operand.tmp 64) (Operand.tmp 65), .always⟩,
  ⟨some 67, Op.fieldAddr 64 (Operand.tmp 66) 0, .always⟩,
  ⟨some 68, Op.load 9 (Operand.tmp 67), .always⟩,
  ⟨some 69, Op.call { callee := Callee.builtin Builtin.len, args := #[Operand.tmp 68], argTypes := #[9] }, .always⟩,
  ⟨some 70, Op.fieldAddr 51 (Operand.tmp 6) 4, .always⟩,
  ⟨some 71, Op.load 49 (Operand.tmp 70), .always⟩,
  ⟨some 72, Op.move (Operand.tmp 8), .always⟩,
  ⟨some 73, Op.indexAddr 49 (Operand.tmp 71) (Operand.tmp 72), .always⟩,
  ⟨some 74, Op.fieldAddr 64 (Operand.tmp 73) 1, .always⟩,
  ⟨some 75, Op.load 9 (Operand.tmp 74), .always⟩,
  ⟨some 76, Op.call { callee := Callee.builtin Builtin.len, args := #[Operand.tmp 75], argTypes := #[9] }, .always⟩,
  ⟨some 77, Op.binOp BinOp.add 3 (Operand.tmp 69) (Operand.tmp 76) 3, .always⟩,
  ⟨some 78, Op.binOp BinOp.gtr 3 (Operand.tmp 77) (Operand.const (Value.int IntKind.i64 300)) 3, .always⟩]
def k22_r18 : List SOp :=
  [⟨some 4, Op.assign (Operand.const (Value.bool false)), .always⟩]
def k22_r16 : List SOp :=
  [⟨some 61, Op.move (Operand.tmp 8), .always⟩,
  ⟨some 62, Op.binOp BinOp.add 3 (Operand.tmp 61) (Operand.const (Value.int IntKind.i64 1)) 3, .always⟩,
  ⟨some 8, Op.assign (Operand.tmp 62), .always⟩]
def k22_l1 : SC :=
  (.seq (.seq (.region k22_r15)
  (.cond (Operand.tmp 60) .skip (.exit 4)))
  (.seq (.block 5 (.seq (.draw k22_r17 k22_b17)
  (.cond (Operand.tmp 78) (.seq (.region k22_r18)
  .ret) .skip)))
  (.region k22_r16)))
def k22_r5 : List SOp :=
  [⟨some 19, Op.move (Operand.tmp 5), .always⟩,
  ⟨some 20, Op.binOp BinOp.add 3 (Operand.tmp 19) (Operand.const (Value.int IntKind.i64 1)) 3, .always⟩,
  ⟨some 5, Op.assign (Operand.tmp 20), .always⟩]
def k22_l2 : SC :=
  (.seq (.seq (.region k22_r4)
  (.cond (Operand.tmp 18) .skip (.exit 0)))
  (.seq (.block 1 (.seq (.region k22_r6)
  (.seq (.seq (.region k22_r7)
  (.cond (Operand.tmp 41) (.seq (.region k22_r8)
  .ret) .skip))
  (.seq (.seq (.region k22_r9)
  (.block 2 (.loop k22_l0)))
  (.seq (.region k22_r14)
  (.block 4 (.loop k22_l1)))))))
  (.region k22_r5)))
def k22_r19 : List SOp :=
  [⟨some 4, Op.assign (Operand.const (Value.bool true)), .always⟩]
def k22 : SC :=
  (.seq (.region k22_r0)
  (.seq (.seq (.region k22_r1)
  (.cond (Operand.tmp 13) (.seq (.region k22_r2)
  .ret) .skip))
  (.seq (.seq (.region k22_r3)
  (.block 0 (.loop k22_l2)))
  (.seq (.region k22_r19)
  .ret))))
theorem k22_func : Tryz.prog.funcs[22]? = some Tryz.f22 := by kernel_rfl
theorem k22_code : (Tryz.f22.body).map compile = some k22 := by kernel_rfl
theorem k22_tmps : Tryz.f22.ntmps = 79 := by kernel_rfl
theorem k22_res : Tryz.f22.results.toList = [ResultVar.tmp 4] := by kernel_rfl
theorem hint_22_2 : hintF 22 2 = 1 := by kernel_rfl
theorem hint_22_6 : hintF 22 6 = 1 := by kernel_rfl
theorem hint_22_11 : hintF 22 11 = 0 := by kernel_rfl
theorem hint_22_17 : hintF 22 17 = 0 := by kernel_rfl
theorem hint_22_28 : hintF 22 28 = 0 := by kernel_rfl
theorem hint_22_33 : hintF 22 33 = 0 := by kernel_rfl
theorem hint_22_39 : hintF 22 39 = 0 := by kernel_rfl
theorem hint_22_45 : hintF 22 45 = 0 := by kernel_rfl
theorem hint_22_54 : hintF 22 54 = 0 := by kernel_rfl
theorem hint_22_59 : hintF 22 59 = 0 := by kernel_rfl
theorem hint_22_69 : hintF 22 69 = 0 := by kernel_rfl
theorem hint_22_76 : hintF 22 76 = 0 := by kernel_rfl
/- "planisphere/atlas.Valid" -/
def k23_r0 : List SOp :=
  [⟨some 1, Op.box 24 (Operand.tmp 0), .always⟩,
  ⟨some 2, Op.assign (Operand.const (Value.bool false)), .always⟩]
def k23_r1 : List SOp :=
  [⟨some 3, Op.assign (Operand.const (Value.string { data := #[] })), .always⟩]
def k23_r2 : List SOp :=
  [⟨some 6, Op.fieldAddr 24 (Operand.tmp 1) 0, .always⟩,
  ⟨some 7, Op.load 22 (Operand.tmp 6), .always⟩,
  ⟨some 8, Op.call { callee := Callee.builtin Builtin.len, args := #[Operand.tmp 7], argTypes := #[22] }, .always⟩,
  ⟨some 9, Op.move (Operand.const (Value.int IntKind.i64 0)), .always⟩]
def k23_r3 : List SOp :=
  [⟨some 10, Op.binOp BinOp.lss 3 (Operand.tmp 9) (Operand.tmp 8) 3, .always⟩]
def k23_r4 : List SOp :=
  [⟨some 11, Op.indexAddr 22 (Operand.tmp 7) (Operand.tmp 9), .always⟩,
  ⟨some 12, Op.load 51 (Operand.tmp 11), .always⟩,
  ⟨some 5, Op.alloc 51, .always⟩,
  ⟨none, Op.store 51 (Operand.tmp 5) (Operand.tmp 12), .always⟩]
def k23_r5 : List SOp :=
  [⟨some 13, Op.load 51 (Operand.tmp 5), .always⟩,
  ⟨some 14, Op.call { callee := Callee.value (Operand.func 48), args := #[Operand.tmp 13], argTypes := #[51] }, .always⟩,
  ⟨some 15, Op.unOp UnOp.not 4 (Operand.tmp 14), .always⟩,
  ⟨some 16, Op.move (Operand.tmp 15), .always⟩,
  ⟨some 17, Op.fieldAddr 51 (Operand.tmp 5) 0, (.when 16 false)⟩,
  ⟨some 18, Op.load 9 (Operand.tmp 17), (.when 16 false)⟩,
  ⟨some 19, Op.move (Operand.tmp 3), (.when 16 false)⟩,
  ⟨some 20, Op.binOp BinOp.leq 9 (Operand.tmp 18) (Operand.tmp 19) 9, (.when 16 false)⟩,
  ⟨some 21, Op.pick (Operand.tmp 16) (Operand.const (Value.bool true)) (Operand.tmp 20), .always⟩]
def k23_r6 : List SOp :=
  [⟨some 2, Op.assign (Operand.const (Value.bool false)), .always⟩]
def k23_r7 : List SOp :=
  [⟨some 22, Op.fieldAddr 51 (Operand.tmp 5) 0, .always⟩,
  ⟨some 23, Op.load 9 (Operand.tmp 22), .always⟩,
  ⟨some 3, Op.assign (Operand.tmp 23), .always⟩]
def k23_r8 : List SOp :=
  [⟨some 24, Op.binOp BinOp.add 3 (Operand.tmp 9) (Operand.const (Value.int IntKind.i64 1)) 3, .always⟩,
  ⟨some 9, Op.move (Operand.tmp 24), .always⟩]
def k23_l0 : SC :=
  (.seq (.region k23_r3)
  (.seq (.cond (Operand.tmp 10) .skip (.exit 0))
  (.seq (.block 1 (.seq (.region k23_r4)
  (.seq (.seq (.region k23_r5)
  (.cond (Operand.tmp 21) (.seq (.region k23_r6)
  .ret) .skip))
  (.region k23_r7))))
  (.region k23_r8))))
def k23_r9 : List SOp :=
  [⟨some 25, Op.fieldAddr 24 (Operand.tmp 1) 0, .always⟩,
  ⟨some 26, Op.load 22 (Operand.tmp 25), .always⟩,
  ⟨some 27, Op.call { callee := Callee.builtin Builtin.len, args := #[Operand.tmp 26], argTypes := #[22] }, .always⟩,
  ⟨some 28, Op.binOp BinOp.leq 3 (Operand.tmp 27) (Operand.const (Value.int IntKind.i64 1000000)) 3, .always⟩,
  ⟨some 2, Op.assign (Operand.tmp 28), .always⟩]
def k23 : SC :=
  (.seq (.region k23_r0)
  (.seq (.region k23_r1)
  (.seq (.seq (.region k23_r2)
  (.block 0 (.loop k23_l0)))
  (.seq (.region k23_r9)
  .ret))))
theorem k23_func : Tryz.prog.funcs[23]? = some Tryz.f23 := by kernel_rfl
theorem k23_code : (Tryz.f23.body).map compile = some k23 := by kernel_rfl
theorem k23_tmps : Tryz.f23.ntmps = 29 := by kernel_rfl
theorem k23_res : Tryz.f23.results.toList = [ResultVar.tmp 2] := by kernel_rfl
theorem hint_23_1 : hintF 23 1 = 1 := by kernel_rfl
theorem hint_23_5 : hintF 23 5 = 1 := by kernel_rfl
theorem hint_23_8 : hintF 23 8 = 0 := by kernel_rfl
theorem hint_23_14 : hintF 23 14 = 0 := by kernel_rfl
theorem hint_23_27 : hintF 23 27 = 0 := by kernel_rfl
/- "planisphere/planisphereref11.Same" -/
def k40_b6 : List Nat := [0, 1, 0, 7, 15, 0, 32, 0, 224, 480, 1023]
def k40_b11 : List Nat := [0, 1, 0, 7, 15, 0, 32, 0, 224, 480, 1023]
def k40_r0 : List SOp :=
  [⟨some 2, Op.box 51 (Operand.tmp 0), .always⟩,
  ⟨some 3, Op.box 51 (Operand.tmp 1), .always⟩,
  ⟨some 4, Op.assign (Operand.const (Value.bool false)), .always⟩]
def k40_r1 : List SOp :=
  [⟨some 7, Op.fieldAddr 51 (Operand.tmp 2) 0, .always⟩,
  ⟨some 8, Op.load 9 (Operand.tmp 7), .always⟩,
  ⟨some 9, Op.fieldAddr 51 (Operand.tmp 3) 0, .always⟩,
  ⟨some 10, Op.load 9 (Operand.tmp 9), .always⟩,
  ⟨some 11, Op.binOp BinOp.neq 9 (Operand.tmp 8) (Operand.tmp 10) 9, .always⟩,
  ⟨some 12, Op.move (Operand.tmp 11), .always⟩,
  ⟨some 13, Op.fieldAddr 51 (Operand.tmp 2) 1, (.when 12 false)⟩,
  ⟨some 14, Op.load 3 (Operand.tmp 13), (.when 12 false)⟩,
  ⟨some 15, Op.fieldAddr 51 (Operand.tmp 3) 1, (.when 12 false)⟩,
  ⟨some 16, Op.load 3 (Operand.tmp 15), (.when 12 false)⟩,
  ⟨some 17, Op.binOp BinOp.neq 3 (Operand.tmp 14) (Operand.tmp 16) 3, (.when 12 false)⟩,
  ⟨some 18, Op.pick (Operand.tmp 12) (Operand.const (Value.bool true)) (Operand.tmp 17), .always⟩,
  ⟨some 19, Op.move (Operand.tmp 18), .always⟩,
  ⟨some 20, Op.fieldAddr 51 (Operand.tmp 2) 2, (.when 19 false)⟩,
  ⟨some 21, Op.load 48 (Operand.tmp 20), (.when 19 false)⟩,
  ⟨some 22, Op.fieldAddr 51 (Operand.tmp 3) 2, (.when 19 false)⟩,
  ⟨some 23, Op.load 48 (Operand.tmp 22), (.when 19 false)⟩,
  ⟨some 24, Op.binOp BinOp.neq 48 (Operand.tmp 21) (Operand.tmp 23) 48, (.when 19 false)⟩,
  ⟨some 25, Op.pick (Operand.tmp 19) (Operand.const (Value.bool true)) (Operand.tmp 24), .always⟩,
  ⟨some 26, Op.move (Operand.tmp 25), .always⟩,
  ⟨some 27, Op.fieldAddr 51 (Operand.tmp 2) 3, (.when 26 false)⟩,
  ⟨some 28, Op.load 25 (Operand.tmp 27), (.when 26 false)⟩,
  ⟨some 29, Op.call { callee := Callee.builtin Builtin.len, args := #[Operand.tmp 28], argTypes := #[25] }, (.when 26 false)⟩,
  ⟨some 30, Op.fieldAddr 51 (Operand.tmp 3) 3, (.when 26 false)⟩,
  ⟨some 31, Op.load 25 (Operand.tmp 30), (.when 26 false)⟩,
  ⟨some 32, Op.call { callee := Callee.builtin Builtin.len, args := #[Operand.tmp 31], argTypes := #[25] }, (.when 26 false)⟩,
  ⟨some 33, Op.binOp BinOp.neq 3 (Operand.tmp 29) (Operand.tmp 32) 3, (.when 26 false)⟩,
  ⟨some 34, Op.pick (Operand.tmp 26) (Operand.const (Value.bool true)) (Operand.tmp 33), .always⟩,
  ⟨some 35, Op.move (Operand.tmp 34), .always⟩,
  ⟨some 36, Op.fieldAddr 51 (Operand.tmp 2) 4, (.when 35 false)⟩,
  ⟨some 37, Op.load 49 (Operand.tmp 36), (.when 35 false)⟩,
  ⟨some 38, Op.call { callee := Callee.builtin Builtin.len, args := #[Operand.tmp 37], argTypes := #[49] }, (.when 35 false)⟩,
  ⟨some 39, Op.fieldAddr 51 (Operand.tmp 3) 4, (.when 35 false)⟩,
  ⟨some 40, Op.load 49 (Operand.tmp 39), (.when 35 false)⟩,
  ⟨some 41, Op.call { callee := Callee.builtin Builtin.len, args := #[Operand.tmp 40], argTypes := #[49] }, (.when 35 false)⟩,
  ⟨some 42, Op.binOp BinOp.neq 3 (Operand.tmp 38) (Operand.tmp 41) 3, (.when 35 false)⟩,
  ⟨some 43, Op.pick (Operand.tmp 35) (Operand.const (Value.bool true)) (Operand.tmp 42), .always⟩]
def k40_r2 : List SOp :=
  [⟨some 4, Op.assign (Operand.const (Value.bool false)), .always⟩]
def k40_r3 : List SOp :=
  [⟨some 5, Op.assign (Operand.const (Value.int IntKind.i64 0)), .always⟩]
def k40_r4 : List SOp :=
  [⟨some 44, Op.move (Operand.tmp 5), .always⟩,
  ⟨some 45, Op.fieldAddr 51 (Operand.tmp 2) 3, .always⟩,
  ⟨some 46, Op.load 25 (Operand.tmp 45), .always⟩,
  ⟨some 47, Op.call { callee := Callee.builtin Builtin.len, args := #[Operand.tmp 46], argTypes := #[25] }, .always⟩,
  ⟨some 48, Op.binOp BinOp.lss 3 (Operand.tmp 44) (Operand.tmp 47) 3, .always⟩]
def k40_r6 : List SOp :=
  [⟨some 51, Op.fieldAddr 51 (Operand.tmp 2) 3, .always⟩,
  ⟨some 52, Op.load 25 (Operand.tmp 51), .always⟩,
  ⟨some 53, Op.move (Operand.tmp 5), .always⟩,
  ⟨some 54, Op.indexAddr 25 (Operand.tmp 52) (Operand.tmp 53), .always⟩,
  ⟨some 55, Op.load 9 (Operand.tmp 54), .always⟩,
  ⟨some 56, Op.fieldAddr 51 (Operand.tmp 3) 3, .always⟩,
  ⟨some 57, Op.load 25 (Operand.tmp 56), .always⟩,
  ⟨some 58, Op.move (Operand.tmp 5), .always⟩,
  ⟨some 59, Op.indexAddr 25 (Operand.tmp 57) (Operand.tmp 58), .always⟩,
  ⟨some 60, Op.load 9 (Operand.tmp 59), .always⟩,
  ⟨some 61, Op.binOp BinOp.neq 9 (Operand.tmp 55) (Operand.tmp 60) 9, .always⟩]
def k40_r7 : List SOp :=
  [⟨some 4, Op.assign (Operand.const (Value.bool false)), .always⟩]
def k40_r5 : List SOp :=
  [⟨some 49, Op.move (Operand.tmp 5), .always⟩,
  ⟨some 50, Op.binOp BinOp.add 3 (Operand.tmp 49) (Operand.const (Value.int IntKind.i64 1)) 3, .always⟩,
  ⟨some 5, Op.assign (Operand.tmp 50), .always⟩]
def k40_l0 : SC :=
  (.seq (.seq (.region k40_r4)
  (.cond (Operand.tmp 48) .skip (.exit 0)))
  (.seq (.block 1 (.seq (.draw k40_r6 k40_b6)
  (.cond (Operand.tmp 61) (.seq (.region k40_r7)
  .ret) .skip)))
  (.region k40_r5)))
def k40_r8 : List SOp :=
  [⟨some 6, Op.assign (Operand.const (Value.int IntKind.i64 0)), .always⟩]
def k40_r9 : List SOp :=
  [⟨some 62, Op.move (Operand.tmp 6), .always⟩,
  ⟨some 63, Op.fieldAddr 51 (Operand.tmp 2) 4, .always⟩,
  ⟨some 64, Op.load 49 (Operand.tmp 63), .always⟩,
  ⟨some 65, Op.call { callee := Callee.builtin Builtin.len, args := #[Operand.tmp 64], argTypes := #[49] }, .always⟩,
  ⟨some 66, Op.binOp BinOp.lss 3 (Operand.tmp 62) (Operand.tmp 65) 3, .always⟩]
def k40_r11 : List SOp :=
  [⟨some 69, Op.fieldAddr 51 (Operand.tmp 2) 4, .always⟩,
  ⟨some 70, Op.load 49 (Operand.tmp 69), .always⟩,
  ⟨some 71, Op.move (Operand.tmp 6), .always⟩,
  ⟨some 72, Op.indexAddr 49 (Operand.tmp 70) (Operand.tmp 71), .always⟩,
  ⟨some 73, Op.load 64 (Operand.tmp 72), .always⟩,
  ⟨some 74, Op.fieldAddr 51 (Operand.tmp 3) 4, .always⟩,
  ⟨some 75, Op.load 49 (Operand.tmp 74), .always⟩,
  ⟨some 76, Op.move (Operand.tmp 6), .always⟩,
  ⟨some 77, Op.indexAddr 49 (Operand.tmp 75) (Operand.tmp 76), .always⟩,
  ⟨some 78, Op.load 64 (Operand.tmp 77), .always⟩,
  ⟨some 79, Op.binOp BinOp.neq 64 (Operand.tmp 73) (Operand.tmp 78) 64, .always⟩]
def k40_r12 : List SOp :=
  [⟨some 4, Op.assign (Operand.const (Value.bool false)), .always⟩]
def k40_r10 : List SOp :=
  [⟨some 67, Op.move (Operand.tmp 6), .always⟩,
  ⟨some 68, Op.binOp BinOp.add 3 (Operand.tmp 67) (Operand.const (Value.int IntKind.i64 1)) 3, .always⟩,
  ⟨some 6, Op.assign (Operand.tmp 68), .always⟩]
def k40_l1 : SC :=
  (.seq (.seq (.region k40_r9)
  (.cond (Operand.tmp 66) .skip (.exit 2)))
  (.seq (.block 3 (.seq (.draw k40_r11 k40_b11)
  (.cond (Operand.tmp 79) (.seq (.region k40_r12)
  .ret) .skip)))
  (.region k40_r10)))
def k40_r13 : List SOp :=
  [⟨some 4, Op.assign (Operand.const (Value.bool true)), .always⟩]
def k40 : SC :=
  (.seq (.region k40_r0)
  (.seq (.seq (.region k40_r1)
  (.cond (Operand.tmp 43) (.seq (.region k40_r2)
  .ret) .skip))
  (.seq (.seq (.region k40_r3)
  (.block 0 (.loop k40_l0)))
  (.seq (.seq (.region k40_r8)
  (.block 2 (.loop k40_l1)))
  (.seq (.region k40_r13)
  .ret)))))
theorem k40_func : Tryz.prog.funcs[40]? = some Tryz.f40 := by kernel_rfl
theorem k40_code : (Tryz.f40.body).map compile = some k40 := by kernel_rfl
theorem k40_tmps : Tryz.f40.ntmps = 80 := by kernel_rfl
theorem k40_res : Tryz.f40.results.toList = [ResultVar.tmp 4] := by kernel_rfl
theorem hint_40_2 : hintF 40 2 = 1 := by kernel_rfl
theorem hint_40_3 : hintF 40 3 = 1 := by kernel_rfl
theorem hint_40_29 : hintF 40 29 = 0 := by kernel_rfl
theorem hint_40_32 : hintF 40 32 = 0 := by kernel_rfl
theorem hint_40_38 : hintF 40 38 = 0 := by kernel_rfl
theorem hint_40_41 : hintF 40 41 = 0 := by kernel_rfl
theorem hint_40_47 : hintF 40 47 = 0 := by kernel_rfl
theorem hint_40_65 : hintF 40 65 = 0 := by kernel_rfl
/- "planisphere/valid.objects" -/
def k41_r0 : List SOp :=
  [⟨some 1, Op.box 24 (Operand.tmp 0), .always⟩,
  ⟨some 2, Op.assign (Operand.const (Value.map none)), .always⟩]
def k41_r1 : List SOp :=
  [⟨some 6, Op.fieldAddr 24 (Operand.tmp 1) 0, .always⟩,
  ⟨some 7, Op.load 22 (Operand.tmp 6), .always⟩,
  ⟨some 8, Op.call { callee := Callee.builtin Builtin.len, args := #[Operand.tmp 7], argTypes := #[22] }, .always⟩,
  ⟨some 9, Op.makeMap 72 (some (Operand.tmp 8)), .always⟩,
  ⟨some 3, Op.assign (Operand.tmp 9), .always⟩]
def k41_r2 : List SOp :=
  [⟨some 10, Op.fieldAddr 24 (Operand.tmp 1) 0, .always⟩,
  ⟨some 11, Op.load 22 (Operand.tmp 10), .always⟩,
  ⟨some 12, Op.call { callee := Callee.builtin Builtin.len, args := #[Operand.tmp 11], argTypes := #[22] }, .always⟩,
  ⟨some 13, Op.move (Operand.const (Value.int IntKind.i64 0)), .always⟩]
def k41_r3 : List SOp :=
  [⟨some 14, Op.binOp BinOp.lss 3 (Operand.tmp 13) (Operand.tmp 12) 3, .always⟩]
def k41_r4 : List SOp :=
  [⟨some 15, Op.indexAddr 22 (Operand.tmp 11) (Operand.tmp 13), .always⟩,
  ⟨some 16, Op.load 51 (Operand.tmp 15), .always⟩,
  ⟨some 5, Op.alloc 51, .always⟩,
  ⟨none, Op.store 51 (Operand.tmp 5) (Operand.tmp 16), .always⟩]
def k41_r5 : List SOp :=
  [⟨some 17, Op.move (Operand.tmp 3), .always⟩,
  ⟨some 18, Op.fieldAddr 51 (Operand.tmp 5) 0, .always⟩,
  ⟨some 19, Op.load 9 (Operand.tmp 18), .always⟩,
  ⟨some 20, Op.load 51 (Operand.tmp 5), .always⟩,
  ⟨none, Op.mapUpdate 72 (Operand.tmp 17) (Operand.tmp 19) (Operand.tmp 20), .always⟩]
def k41_r6 : List SOp :=
  [⟨some 21, Op.binOp BinOp.add 3 (Operand.tmp 13) (Operand.const (Value.int IntKind.i64 1)) 3, .always⟩,
  ⟨some 13, Op.move (Operand.tmp 21), .always⟩]
def k41_l0 : SC :=
  (.seq (.region k41_r3)
  (.seq (.cond (Operand.tmp 14) .skip (.exit 0))
  (.seq (.block 1 (.seq (.region k41_r4)
  (.region k41_r5)))
  (.region k41_r6))))
def k41_r7 : List SOp :=
  [⟨some 22, Op.move (Operand.tmp 3), .always⟩,
  ⟨some 2, Op.assign (Operand.tmp 22), .always⟩]
def k41 : SC :=
  (.seq (.region k41_r0)
  (.seq (.region k41_r1)
  (.seq (.seq (.region k41_r2)
  (.block 0 (.loop k41_l0)))
  (.seq (.region k41_r7)
  .ret))))
theorem k41_func : Tryz.prog.funcs[41]? = some Tryz.f41 := by kernel_rfl
theorem k41_code : (Tryz.f41.body).map compile = some k41 := by kernel_rfl
theorem k41_tmps : Tryz.f41.ntmps = 23 := by kernel_rfl
theorem k41_res : Tryz.f41.results.toList = [ResultVar.tmp 2] := by kernel_rfl
theorem hint_41_1 : hintF 41 1 = 1 := by kernel_rfl
theorem hint_41_5 : hintF 41 5 = 1 := by kernel_rfl
theorem hint_41_8 : hintF 41 8 = 0 := by kernel_rfl
theorem hint_41_12 : hintF 41 12 = 0 := by kernel_rfl
/- "planisphere/valid.Close$1" -/
def k42_r0 : List SOp :=
  [⟨some 7, Op.load 46 (Operand.tmp 1), .always⟩,
  ⟨some 8, Op.move (Operand.tmp 0), .always⟩,
  ⟨some 9, Op.lookup 46 (Operand.tmp 7) (Operand.tmp 8) false, .always⟩]
def k42_r1 : List SOp :=
  [⟨some 10, Op.load 46 (Operand.tmp 1), .always⟩,
  ⟨some 11, Op.move (Operand.tmp 0), .always⟩,
  ⟨none, Op.mapUpdate 46 (Operand.tmp 10) (Operand.tmp 11) (Operand.const (Value.bool true)), .always⟩]
def k42_r2 : List SOp :=
  [⟨some 12, Op.load 72 (Operand.tmp 2), .always⟩,
  ⟨some 13, Op.move (Operand.tmp 0), .always⟩,
  ⟨some 14, Op.lookup 72 (Operand.tmp 12) (Operand.tmp 13) false, .always⟩,
  ⟨some 15, Op.field 51 (Operand.tmp 14) 3, .always⟩,
  ⟨some 16, Op.call { callee := Callee.builtin Builtin.len, args := #[Operand.tmp 15], argTypes := #[25] }, .always⟩,
  ⟨some 17, Op.move (Operand.const (Value.int IntKind.i64 0)), .always⟩]
def k42_r3 : List SOp :=
  [⟨some 18, Op.binOp BinOp.lss 3 (Operand.tmp 17) (Operand.tmp 16) 3, .always⟩]
def k42_r4 : List SOp :=
  [⟨some 19, Op.indexAddr 25 (Operand.tmp 15) (Operand.tmp 17), .always⟩,
  ⟨some 20, Op.load 9 (Operand.tmp 19), .always⟩,
  ⟨some 6, Op.assign (Operand.tmp 20), .always⟩]
def k42_r5 : List SOp :=
  [⟨some 21, Op.load 74 (Operand.tmp 3), .always⟩,
  ⟨some 22, Op.move (Operand.tmp 6), .always⟩,
  ⟨some 23, Op.call { callee := Callee.value (Operand.tmp 21), args := #[Operand.tmp 22], argTypes := #[9] }, .always⟩]
def k42_r6 : List SOp :=
  [⟨some 24, Op.binOp BinOp.add 3 (Operand.tmp 17) (Operand.const (Value.int IntKind.i64 1)) 3, .always⟩,
  ⟨some 17, Op.move (Operand.tmp 24), .always⟩]
def k42_l0 : SC :=
  (.seq (.region k42_r3)
  (.seq (.cond (Operand.tmp 18) .skip (.exit 0))
  (.seq (.block 1 (.seq (.region k42_r4)
  (.region k42_r5)))
  (.region k42_r6))))
def k42 : SC :=
  (.seq (.seq (.region k42_r0)
  (.cond (Operand.tmp 9) .ret .skip))
  (.seq (.region k42_r1)
  (.seq (.region k42_r2)
  (.block 0 (.loop k42_l0)))))
theorem k42_func : Tryz.prog.funcs[42]? = some Tryz.f42 := by kernel_rfl
theorem k42_code : (Tryz.f42.body).map compile = some k42 := by kernel_rfl
theorem k42_tmps : Tryz.f42.ntmps = 25 := by kernel_rfl
theorem k42_res : Tryz.f42.results.toList = [] := by kernel_rfl
theorem hint_42_16 : hintF 42 16 = 0 := by kernel_rfl
theorem hint_42_23 : hintF 42 23 = 0 := by kernel_rfl
/- "planisphere/object.Valid" -/
def k48_b1 : List Nat := [0, 1, 3, 7, 15, 31, 63, 127, 255, 511, 1023, 2047, 4095, 8191, 16383, 32767, 65535, 131071, 262143, 524287, 131071, 1179647, 3276799, 8388607, 16777215, 33554431, 67108863, 134217727, 268435455, 536870911, 1073741823]
def k48_r0 : List SOp :=
  [⟨some 1, Op.box 51 (Operand.tmp 0), .always⟩,
  ⟨some 2, Op.assign (Operand.const (Value.bool false)), .always⟩]
def k48_r1 : List SOp :=
  [⟨some 6, Op.fieldAddr 51 (Operand.tmp 1) 1, .always⟩,
  ⟨some 7, Op.load 3 (Operand.tmp 6), .always⟩,
  ⟨some 8, Op.call { callee := Callee.value (Operand.func 93), args := #[Operand.tmp 7], argTypes := #[3] }, .always⟩,
  ⟨some 9, Op.binOp BinOp.eql 9 (Operand.tmp 8) (Operand.const (Value.string { data := #[] })) 9, .always⟩,
  ⟨some 10, Op.move (Operand.tmp 9), .always⟩,
  ⟨some 11, Op.fieldAddr 51 (Operand.tmp 1) 0, (.when 10 false)⟩,
  ⟨some 12, Op.load 9 (Operand.tmp 11), (.when 10 false)⟩,
  ⟨some 13, Op.call { callee := Callee.value (Operand.func 94), args := #[Operand.tmp 12], argTypes := #[9] }, (.when 10 false)⟩,
  ⟨some 14, Op.unOp UnOp.not 4 (Operand.tmp 13), (.when 10 false)⟩,
  ⟨some 15, Op.pick (Operand.tmp 10) (Operand.const (Value.bool true)) (Operand.tmp 14), .always⟩,
  ⟨some 16, Op.move (Operand.tmp 15), .always⟩,
  ⟨some 17, Op.fieldAddr 51 (Operand.tmp 1) 4, (.when 16 false)⟩,
  ⟨some 18, Op.load 49 (Operand.tmp 17), (.when 16 false)⟩,
  ⟨some 19, Op.call { callee := Callee.value (Operand.func 95), args := #[Operand.tmp 18], argTypes := #[49] }, (.when 16 false)⟩,
  ⟨some 20, Op.unOp UnOp.not 4 (Operand.tmp 19), (.when 16 false)⟩,
  ⟨some 21, Op.pick (Operand.tmp 16) (Operand.const (Value.bool true)) (Operand.tmp 20), .always⟩,
  ⟨some 22, Op.move (Operand.tmp 21), .always⟩,
  ⟨some 23, Op.fieldAddr 51 (Operand.tmp 1) 3, (.when 22 false)⟩,
  ⟨some 24, Op.load 25 (Operand.tmp 23), (.when 22 false)⟩,
  ⟨some 25, Op.call { callee := Callee.builtin Builtin.len, args := #[Operand.tmp 24], argTypes := #[25] }, (.when 22 false)⟩,
  ⟨some 26, Op.fieldAddr 51 (Operand.tmp 1) 1, (.when 22 false)⟩,
  ⟨some 27, Op.load 3 (Operand.tmp 26), (.when 22 false)⟩,
  ⟨some 28, Op.call { callee := Callee.value (Operand.func 96), args := #[Operand.tmp 27], argTypes := #[3] }, (.when 22 false)⟩,
  ⟨some 29, Op.binOp BinOp.lss 3 (Operand.tmp 25) (Operand.tmp 28) 3, (.when 22 false)⟩,
  ⟨some 30, Op.pick (Operand.tmp 22) (Operand.const (Value.bool true)) (Operand.tmp 29), .always⟩,
  ⟨some 31, Op.move (Operand.tmp 30), .always⟩,
  ⟨some 32, Op.fieldAddr 51 (Operand.tmp 1) 3, (.when 31 false)⟩,
  ⟨some 33, Op.load 25 (Operand.tmp 32), (.when 31 false)⟩,
  ⟨some 34, Op.call { callee := Callee.builtin Builtin.len, args := #[Operand.tmp 33], argTypes := #[25] }, (.when 31 false)⟩,
  ⟨some 35, Op.binOp BinOp.gtr 3 (Operand.tmp 34) (Operand.const (Value.int IntKind.i64 2000)) 3, (.when 31 false)⟩,
  ⟨some 36, Op.pick (Operand.tmp 31) (Operand.const (Value.bool true)) (Operand.tmp 35), .always⟩]
def k48_r2 : List SOp :=
  [⟨some 2, Op.assign (Operand.const (Value.bool false)), .always⟩]
def k48_r3 : List SOp :=
  [⟨some 37, Op.makeMap 46 none, .always⟩,
  ⟨some 3, Op.alloc 46, .always⟩,
  ⟨none, Op.store 46 (Operand.tmp 3) (Operand.tmp 37), .always⟩]
def k48_r4 : List SOp :=
  [⟨some 4, Op.alloc 9, .always⟩,
  ⟨none, Op.store 9 (Operand.tmp 4) (Operand.const (Value.string { data := #[] })), .always⟩]
def k48_r5 : List SOp :=
  [⟨some 38, Op.makeFunc (Fn.func 97) #[] #[Operand.tmp 1, Operand.tmp 4, Operand.tmp 3], .always⟩,
  ⟨some 5, Op.assign (Operand.tmp 38), .always⟩]
def k48_r6 : List SOp :=
  [⟨some 39, Op.fieldAddr 51 (Operand.tmp 1) 3, .always⟩,
  ⟨some 40, Op.load 25 (Operand.tmp 39), .always⟩,
  ⟨some 41, Op.move (Operand.tmp 5), .always⟩,
  ⟨some 42, Op.call { callee := Callee.value (Operand.func 98), args := #[Operand.tmp 40, Operand.tmp 41], argTypes := #[25, 138] }, .always⟩]
def k48_r7 : List SOp :=
  [⟨some 2, Op.assign (Operand.const (Value.bool false)), .always⟩]
def k48_r8 : List SOp :=
  [⟨some 43, Op.fieldAddr 51 (Operand.tmp 1) 1, .always⟩,
  ⟨some 44, Op.load 3 (Operand.tmp 43), .always⟩]
def k48_r9 : List SOp :=
  [⟨some 46, Op.binOp BinOp.eql 3 (Operand.tmp 44) (Operand.const (Value.int IntKind.i64 1)) 3, .always⟩,
  ⟨some 45, Op.assign (Operand.tmp 46), .always⟩]
def k48_r10 : List SOp :=
  [⟨some 47, Op.fieldAddr 51 (Operand.tmp 1) 3, .always⟩,
  ⟨some 48, Op.load 25 (Operand.tmp 47), .always⟩,
  ⟨some 49, Op.call { callee := Callee.builtin Builtin.len, args := #[Operand.tmp 48], argTypes := #[25] }, .always⟩,
  ⟨some 50, Op.binOp BinOp.eql 3 (Operand.tmp 49) (Operand.const (Value.int IntKind.i64 0)) 3, .always⟩,
  ⟨some 51, Op.move (Operand.tmp 50), .always⟩,
  ⟨some 52, Op.fieldAddr 51 (Operand.tmp 1) 2, (.when 51 true)⟩,
  ⟨some 53, Op.load 48 (Operand.tmp 52), (.when 51 true)⟩,
  ⟨some 54, Op.call { callee := Callee.value (Operand.func 99), args := #[Operand.tmp 53], argTypes := #[48] }, (.when 51 true)⟩,
  ⟨some 55, Op.pick (Operand.tmp 51) (Operand.tmp 54) (Operand.const (Value.bool false)), .always⟩,
  ⟨some 2, Op.assign (Operand.tmp 55), .always⟩]
def k48_r11 : List SOp :=
  [⟨some 57, Op.binOp BinOp.eql 3 (Operand.tmp 44) (Operand.const (Value.int IntKind.i64 5)) 3, .always⟩,
  ⟨some 56, Op.assign (Operand.tmp 57), .always⟩]
def k48_r12 : List SOp :=
  [⟨some 58, Op.fieldAddr 51 (Operand.tmp 1) 3, .always⟩,
  ⟨some 59, Op.load 25 (Operand.tmp 58), .always⟩,
  ⟨some 60, Op.call { callee := Callee.builtin Builtin.len, args := #[Operand.tmp 59], argTypes := #[25] }, .always⟩,
  ⟨some 61, Op.binOp BinOp.eql 3 (Operand.tmp 60) (Operand.const (Value.int IntKind.i64 3)) 3, .always⟩,
  ⟨some 62, Op.move (Operand.tmp 61), .always⟩,
  ⟨some 63, Op.fieldAddr 51 (Operand.tmp 1) 2, (.when 62 true)⟩,
  ⟨some 64, Op.load 48 (Operand.tmp 63), (.when 62 true)⟩,
  ⟨some 65, Op.build 48 #[], (.when 62 true)⟩,
  ⟨some 66, Op.binOp BinOp.eql 48 (Operand.tmp 64) (Operand.tmp 65) 48, (.when 62 true)⟩,
  ⟨some 67, Op.pick (Operand.tmp 62) (Operand.tmp 66) (Operand.const (Value.bool false)), .always⟩,
  ⟨some 2, Op.assign (Operand.tmp 67), .always⟩]
def k48_r13 : List SOp :=
  [⟨some 68, Op.fieldAddr 51 (Operand.tmp 1) 2, .always⟩,
  ⟨some 69, Op.load 48 (Operand.tmp 68), .always⟩,
  ⟨some 70, Op.build 48 #[], .always⟩,
  ⟨some 71, Op.binOp BinOp.eql 48 (Operand.tmp 69) (Operand.tmp 70) 48, .always⟩,
  ⟨some 2, Op.assign (Operand.tmp 71), .always⟩]
def k48 : SC :=
  (.seq (.region k48_r0)
  (.seq (.seq (.draw k48_r1 k48_b1)
  (.cond (Operand.tmp 36) (.seq (.region k48_r2)
  .ret) .skip))
  (.seq (.region k48_r3)
  (.seq (.region k48_r4)
  (.seq (.region k48_r5)
  (.seq (.seq (.region k48_r6)
  (.cond (Operand.tmp 42) (.seq (.region k48_r7)
  .ret) .skip))
  (.seq (.seq (.region k48_r8)
  (.block 0 (.seq (.region k48_r9)
  (.cond (Operand.tmp 45) (.seq (.region k48_r10)
  .ret) (.seq (.region k48_r11)
  (.cond (Operand.tmp 56) (.seq (.region k48_r12)
  .ret) .skip))))))
  (.seq (.region k48_r13)
  .ret))))))))
theorem k48_func : Tryz.prog.funcs[48]? = some Tryz.f48 := by kernel_rfl
theorem k48_code : (Tryz.f48.body).map compile = some k48 := by kernel_rfl
theorem k48_tmps : Tryz.f48.ntmps = 72 := by kernel_rfl
theorem k48_res : Tryz.f48.results.toList = [ResultVar.tmp 2] := by kernel_rfl
theorem hint_48_1 : hintF 48 1 = 0 := by kernel_rfl
theorem hint_48_3 : hintF 48 3 = 0 := by kernel_rfl
theorem hint_48_4 : hintF 48 4 = 0 := by kernel_rfl
theorem hint_48_8 : hintF 48 8 = 0 := by kernel_rfl
theorem hint_48_13 : hintF 48 13 = 0 := by kernel_rfl
theorem hint_48_19 : hintF 48 19 = 0 := by kernel_rfl
theorem hint_48_25 : hintF 48 25 = 0 := by kernel_rfl
theorem hint_48_28 : hintF 48 28 = 0 := by kernel_rfl
theorem hint_48_34 : hintF 48 34 = 0 := by kernel_rfl
theorem hint_48_42 : hintF 48 42 = 0 := by kernel_rfl
theorem hint_48_49 : hintF 48 49 = 0 := by kernel_rfl
theorem hint_48_54 : hintF 48 54 = 0 := by kernel_rfl
theorem hint_48_60 : hintF 48 60 = 0 := by kernel_rfl
/- "planisphere/object.word" -/
def k93_r0 : List SOp :=
  [⟨some 2, Op.assign (Operand.const (Value.string { data := #[] })), .always⟩]
def k93_r1 : List SOp :=
  [⟨some 4, Op.build 198 #[(1, Operand.const (Value.string { data := #[110, 111, 100, 101] })), (2, Operand.const (Value.string { data := #[119, 97, 121] })), (3, Operand.const (Value.string { data := #[97, 114, 101, 97] })), (4, Operand.const (Value.string { data := #[114, 111, 117, 116, 101] })), (5, Operand.const (Value.string { data := #[116, 117, 114, 110] }))], .always⟩,
  ⟨some 3, Op.alloc 198, .always⟩,
  ⟨none, Op.store 198 (Operand.tmp 3) (Operand.tmp 4), .always⟩]
def k93_r2 : List SOp :=
  [⟨some 5, Op.move (Operand.tmp 0), .always⟩,
  ⟨some 6, Op.binOp BinOp.lss 3 (Operand.tmp 5) (Operand.const (Value.int IntKind.i64 0)) 3, .always⟩,
  ⟨some 7, Op.move (Operand.tmp 6), .always⟩,
  ⟨some 8, Op.move (Operand.tmp 0), (.when 7 false)⟩,
  ⟨some 9, Op.binOp BinOp.geq 3 (Operand.tmp 8) (Operand.const (Value.int IntKind.i64 6)) 3, (.when 7 false)⟩,
  ⟨some 10, Op.pick (Operand.tmp 7) (Operand.const (Value.bool true)) (Operand.tmp 9), .always⟩]
def k93_r3 : List SOp :=
  [⟨some 2, Op.assign (Operand.const (Value.string { data := #[] })), .always⟩]
def k93_r4 : List SOp :=
  [⟨some 11, Op.move (Operand.tmp 0), .always⟩,
  ⟨some 12, Op.indexAddr 198 (Operand.tmp 3) (Operand.tmp 11), .always⟩,
  ⟨some 13, Op.load 9 (Operand.tmp 12), .always⟩,
  ⟨some 2, Op.assign (Operand.tmp 13), .always⟩]
def k93 : SC :=
  (.seq (.region k93_r0)
  (.seq (.region k93_r1)
  (.seq (.seq (.region k93_r2)
  (.cond (Operand.tmp 10) (.seq (.region k93_r3)
  .ret) .skip))
  (.seq (.region k93_r4)
  .ret))))
theorem k93_func : Tryz.prog.funcs[93]? = some Tryz.f93 := by kernel_rfl
theorem k93_code : (Tryz.f93.body).map compile = some k93 := by kernel_rfl
theorem k93_tmps : Tryz.f93.ntmps = 14 := by kernel_rfl
theorem k93_res : Tryz.f93.results.toList = [ResultVar.tmp 2] := by kernel_rfl
theorem hint_93_3 : hintF 93 3 = 1 := by kernel_rfl
/- "planisphere/lexer.Name" -/
def k94_r0 : List SOp :=
  [⟨some 2, Op.assign (Operand.const (Value.bool false)), .always⟩]
def k94_r1 : List SOp :=
  [⟨some 6, Op.call { callee := Callee.value (Operand.func 156), args := #[], argTypes := #[] }, .always⟩,
  ⟨some 3, Op.alloc 199, .always⟩,
  ⟨none, Op.store 199 (Operand.tmp 3) (Operand.tmp 6), .always⟩]
def k94_r2 : List SOp :=
  [⟨some 7, Op.move (Operand.tmp 0), .always⟩,
  ⟨some 8, Op.call { callee := Callee.builtin Builtin.len, args := #[Operand.tmp 7], argTypes := #[9] }, .always⟩,
  ⟨some 9, Op.move (Operand.const (Value.int IntKind.i64 0)), .always⟩]
def k94_r3 : List SOp :=
  [⟨some 10, Op.binOp BinOp.lss 3 (Operand.tmp 9) (Operand.tmp 8) 3, .always⟩]
def k94_r4 : List SOp :=
  [⟨some 11, Op.move (Operand.tmp 9), .always⟩,
  ⟨some 4, Op.assign (Operand.tmp 11), .always⟩]
def k94_r5 : List SOp :=
  [⟨some 12, Op.move (Operand.tmp 0), .always⟩,
  ⟨some 13, Op.move (Operand.tmp 4), .always⟩,
  ⟨some 14, Op.index 9 (Operand.tmp 12) (Operand.tmp 13), .always⟩,
  ⟨some 15, Op.indexAddr 199 (Operand.tmp 3) (Operand.tmp 14), .always⟩,
  ⟨some 16, Op.load 5 (Operand.tmp 15), .always⟩,
  ⟨some 5, Op.assign (Operand.tmp 16), .always⟩]
def k94_r6 : List SOp :=
  [⟨some 17, Op.move (Operand.tmp 5), .always⟩,
  ⟨some 18, Op.binOp BinOp.neq 5 (Operand.tmp 17) (Operand.const (Value.int IntKind.u8 3)) 5, .always⟩,
  ⟨some 19, Op.move (Operand.tmp 18), .always⟩,
  ⟨some 20, Op.move (Operand.tmp 4), (.when 19 true)⟩,
  ⟨some 21, Op.binOp BinOp.eql 3 (Operand.tmp 20) (Operand.const (Value.int IntKind.i64 0)) 3, (.when 19 true)⟩,
  ⟨some 22, Op.move (Operand.tmp 21), (.when 19 true)⟩,
  ⟨some 23, Op.move (Operand.tmp 5), (.when 22 false)⟩,
  ⟨some 24, Op.binOp BinOp.neq 5 (Operand.tmp 23) (Operand.const (Value.int IntKind.u8 4)) 5, (.when 22 false)⟩,
  ⟨some 25, Op.move (Operand.tmp 24), (.when 22 false)⟩,
  ⟨some 26, Op.move (Operand.tmp 5), (.when 25 true)⟩,
  ⟨some 27, Op.binOp BinOp.neq 5 (Operand.tmp 26) (Operand.const (Value.int IntKind.u8 5)) 5, (.when 25 true)⟩,
  ⟨some 28, Op.pick (Operand.tmp 25) (Operand.tmp 27) (Operand.const (Value.bool false)), (.when 22 false)⟩,
  ⟨some 29, Op.pick (Operand.tmp 22) (Operand.const (Value.bool true)) (Operand.tmp 28), (.when 19 true)⟩,
  ⟨some 30, Op.pick (Operand.tmp 19) (Operand.tmp 29) (Operand.const (Value.bool false)), .always⟩]
def k94_r7 : List SOp :=
  [⟨some 2, Op.assign (Operand.const (Value.bool false)), .always⟩]
def k94_r8 : List SOp :=
  [⟨some 31, Op.binOp BinOp.add 3 (Operand.tmp 9) (Operand.const (Value.int IntKind.i64 1)) 3, .always⟩,
  ⟨some 9, Op.move (Operand.tmp 31), .always⟩]
def k94_l0 : SC :=
  (.seq (.region k94_r3)
  (.seq (.cond (Operand.tmp 10) .skip (.exit 0))
  (.seq (.block 1 (.seq (.region k94_r4)
  (.seq (.region k94_r5)
  (.seq (.region k94_r6)
  (.cond (Operand.tmp 30) (.seq (.region k94_r7)
  .ret) .skip)))))
  (.region k94_r8))))
def k94_r9 : List SOp :=
  [⟨some 32, Op.move (Operand.tmp 0), .always⟩,
  ⟨some 33, Op.binOp BinOp.neq 9 (Operand.tmp 32) (Operand.const (Value.string { data := #[] })) 9, .always⟩,
  ⟨some 34, Op.move (Operand.tmp 33), .always⟩,
  ⟨some 35, Op.move (Operand.tmp 0), (.when 34 true)⟩,
  ⟨some 36, Op.call { callee := Callee.builtin Builtin.len, args := #[Operand.tmp 35], argTypes := #[9] }, (.when 34 true)⟩,
  ⟨some 37, Op.binOp BinOp.leq 3 (Operand.tmp 36) (Operand.const (Value.int IntKind.i64 24)) 3, (.when 34 true)⟩,
  ⟨some 38, Op.pick (Operand.tmp 34) (Operand.tmp 37) (Operand.const (Value.bool false)), .always⟩,
  ⟨some 2, Op.assign (Operand.tmp 38), .always⟩]
def k94 : SC :=
  (.seq (.region k94_r0)
  (.seq (.region k94_r1)
  (.seq (.seq (.region k94_r2)
  (.block 0 (.loop k94_l0)))
  (.seq (.region k94_r9)
  .ret))))
theorem k94_func : Tryz.prog.funcs[94]? = some Tryz.f94 := by kernel_rfl
theorem k94_code : (Tryz.f94.body).map compile = some k94 := by kernel_rfl
theorem k94_tmps : Tryz.f94.ntmps = 39 := by kernel_rfl
theorem k94_res : Tryz.f94.results.toList = [ResultVar.tmp 2] := by kernel_rfl
theorem hint_94_3 : hintF 94 3 = 1 := by kernel_rfl
theorem hint_94_6 : hintF 94 6 = 0 := by kernel_rfl
theorem hint_94_8 : hintF 94 8 = 0 := by kernel_rfl
theorem hint_94_36 : hintF 94 36 = 0 := by kernel_rfl
/- "planisphere/tag.Valid" -/
def k95_r0 : List SOp :=
  [⟨some 2, Op.assign (Operand.const (Value.bool false)), .always⟩]
def k95_r1 : List SOp :=
  [⟨some 3, Op.assign (Operand.const (Value.string { data := #[] })), .always⟩]
def k95_r2 : List SOp :=
  [⟨some 6, Op.move (Operand.tmp 0), .always⟩,
  ⟨some 7, Op.call { callee := Callee.builtin Builtin.len, args := #[Operand.tmp 6], argTypes := #[49] }, .always⟩,
  ⟨some 8, Op.move (Operand.const (Value.int IntKind.i64 0)), .always⟩]
def k95_r3 : List SOp :=
  [⟨some 9, Op.binOp BinOp.lss 3 (Operand.tmp 8) (Operand.tmp 7) 3, .always⟩]
def k95_r4 : List SOp :=
  [⟨some 10, Op.indexAddr 49 (Operand.tmp 6) (Operand.tmp 8), .always⟩,
  ⟨some 11, Op.load 64 (Operand.tmp 10), .always⟩,
  ⟨some 5, Op.alloc 64, .always⟩,
  ⟨none, Op.store 64 (Operand.tmp 5) (Operand.tmp 11), .always⟩]
def k95_r5 : List SOp :=
  [⟨some 12, Op.fieldAddr 64 (Operand.tmp 5) 0, .always⟩,
  ⟨some 13, Op.load 9 (Operand.tmp 12), .always⟩,
  ⟨some 14, Op.call { callee := Callee.value (Operand.func 94), args := #[Operand.tmp 13], argTypes := #[9] }, .always⟩,
  ⟨some 15, Op.unOp UnOp.not 4 (Operand.tmp 14), .always⟩,
  ⟨some 16, Op.move (Operand.tmp 15), .always⟩,
  ⟨some 17, Op.fieldAddr 64 (Operand.tmp 5) 0, (.when 16 false)⟩,
  ⟨some 18, Op.load 9 (Operand.tmp 17), (.when 16 false)⟩,
  ⟨some 19, Op.move (Operand.tmp 3), (.when 16 false)⟩,
  ⟨some 20, Op.binOp BinOp.leq 9 (Operand.tmp 18) (Operand.tmp 19) 9, (.when 16 false)⟩,
  ⟨some 21, Op.pick (Operand.tmp 16) (Operand.const (Value.bool true)) (Operand.tmp 20), .always⟩,
  ⟨some 22, Op.move (Operand.tmp 21), .always⟩,
  ⟨some 23, Op.fieldAddr 64 (Operand.tmp 5) 1, (.when 22 false)⟩,
  ⟨some 24, Op.load 9 (Operand.tmp 23), (.when 22 false)⟩,
  ⟨some 25, Op.binOp BinOp.eql 9 (Operand.tmp 24) (Operand.const (Value.string { data := #[] })) 9, (.when 22 false)⟩,
  ⟨some 26, Op.pick (Operand.tmp 22) (Operand.const (Value.bool true)) (Operand.tmp 25), .always⟩,
  ⟨some 27, Op.move (Operand.tmp 26), .always⟩,
  ⟨some 28, Op.fieldAddr 64 (Operand.tmp 5) 1, (.when 27 false)⟩,
  ⟨some 29, Op.load 9 (Operand.tmp 28), (.when 27 false)⟩,
  ⟨some 30, Op.call { callee := Callee.builtin Builtin.len, args := #[Operand.tmp 29], argTypes := #[9] }, (.when 27 false)⟩,
  ⟨some 31, Op.binOp BinOp.gtr 3 (Operand.tmp 30) (Operand.const (Value.int IntKind.i64 200)) 3, (.when 27 false)⟩,
  ⟨some 32, Op.pick (Operand.tmp 27) (Operand.const (Value.bool true)) (Operand.tmp 31), .always⟩]
def k95_r6 : List SOp :=
  [⟨some 2, Op.assign (Operand.const (Value.bool false)), .always⟩]
def k95_r7 : List SOp :=
  [⟨some 33, Op.fieldAddr 64 (Operand.tmp 5) 0, .always⟩,
  ⟨some 34, Op.load 9 (Operand.tmp 33), .always⟩,
  ⟨some 3, Op.assign (Operand.tmp 34), .always⟩]
def k95_r8 : List SOp :=
  [⟨some 35, Op.binOp BinOp.add 3 (Operand.tmp 8) (Operand.const (Value.int IntKind.i64 1)) 3, .always⟩,
  ⟨some 8, Op.move (Operand.tmp 35), .always⟩]
def k95_l0 : SC :=
  (.seq (.region k95_r3)
  (.seq (.cond (Operand.tmp 9) .skip (.exit 0))
  (.seq (.block 1 (.seq (.region k95_r4)
  (.seq (.seq (.region k95_r5)
  (.cond (Operand.tmp 32) (.seq (.region k95_r6)
  .ret) .skip))
  (.region k95_r7))))
  (.region k95_r8))))
def k95_r9 : List SOp :=
  [⟨some 36, Op.move (Operand.tmp 0), .always⟩,
  ⟨some 37, Op.call { callee := Callee.builtin Builtin.len, args := #[Operand.tmp 36], argTypes := #[49] }, .always⟩,
  ⟨some 38, Op.binOp BinOp.leq 3 (Operand.tmp 37) (Operand.const (Value.int IntKind.i64 60)) 3, .always⟩,
  ⟨some 2, Op.assign (Operand.tmp 38), .always⟩]
def k95 : SC :=
  (.seq (.region k95_r0)
  (.seq (.region k95_r1)
  (.seq (.seq (.region k95_r2)
  (.block 0 (.loop k95_l0)))
  (.seq (.region k95_r9)
  .ret))))
theorem k95_func : Tryz.prog.funcs[95]? = some Tryz.f95 := by kernel_rfl
theorem k95_code : (Tryz.f95.body).map compile = some k95 := by kernel_rfl
theorem k95_tmps : Tryz.f95.ntmps = 39 := by kernel_rfl
theorem k95_res : Tryz.f95.results.toList = [ResultVar.tmp 2] := by kernel_rfl
theorem hint_95_5 : hintF 95 5 = 1 := by kernel_rfl
theorem hint_95_7 : hintF 95 7 = 0 := by kernel_rfl
theorem hint_95_14 : hintF 95 14 = 0 := by kernel_rfl
theorem hint_95_30 : hintF 95 30 = 0 := by kernel_rfl
theorem hint_95_37 : hintF 95 37 = 0 := by kernel_rfl
/- "planisphere/object.least" -/
def k96_r0 : List SOp :=
  [⟨some 2, Op.assign (Operand.const (Value.int IntKind.i64 0)), .always⟩]
def k96_r1 : List SOp :=
  [⟨some 3, Op.build 201 #[(1, Operand.const (Value.int IntKind.i64 0)), (2, Operand.const (Value.int IntKind.i64 2)), (3, Operand.const (Value.int IntKind.i64 3)), (4, Operand.const (Value.int IntKind.i64 1)), (5, Operand.const (Value.int IntKind.i64 3))], .always⟩,
  ⟨some 4, Op.move (Operand.tmp 0), .always⟩,
  ⟨some 5, Op.index 201 (Operand.tmp 3) (Operand.tmp 4), .always⟩,
  ⟨some 2, Op.assign (Operand.tmp 5), .always⟩]
def k96 : SC :=
  (.seq (.region k96_r0)
  (.seq (.region k96_r1)
  .ret))
theorem k96_func : Tryz.prog.funcs[96]? = some Tryz.f96 := by kernel_rfl
theorem k96_code : (Tryz.f96.body).map compile = some k96 := by kernel_rfl
theorem k96_tmps : Tryz.f96.ntmps = 6 := by kernel_rfl
theorem k96_res : Tryz.f96.results.toList = [ResultVar.tmp 2] := by kernel_rfl
/- "planisphere/object.Valid$1" -/
def k97_r0 : List SOp :=
  [⟨some 5, Op.assign (Operand.const (Value.bool false)), .always⟩]
def k97_r1 : List SOp :=
  [⟨some 7, Op.fieldAddr 51 (Operand.tmp 1) 1, .always⟩,
  ⟨some 8, Op.load 3 (Operand.tmp 7), .always⟩,
  ⟨some 9, Op.binOp BinOp.eql 3 (Operand.tmp 8) (Operand.const (Value.int IntKind.i64 2)) 3, .always⟩,
  ⟨some 10, Op.move (Operand.tmp 9), .always⟩,
  ⟨some 11, Op.move (Operand.tmp 0), (.when 10 true)⟩,
  ⟨some 12, Op.load 9 (Operand.tmp 2), (.when 10 true)⟩,
  ⟨some 13, Op.binOp BinOp.eql 9 (Operand.tmp 11) (Operand.tmp 12) 9, (.when 10 true)⟩,
  ⟨some 14, Op.pick (Operand.tmp 10) (Operand.tmp 13) (Operand.const (Value.bool false)), .always⟩,
  ⟨some 15, Op.move (Operand.tmp 14), .always⟩,
  ⟨some 16, Op.fieldAddr 51 (Operand.tmp 1) 1, (.when 15 false)⟩,
  ⟨some 17, Op.load 3 (Operand.tmp 16), (.when 15 false)⟩,
  ⟨some 18, Op.binOp BinOp.eql 3 (Operand.tmp 17) (Operand.const (Value.int IntKind.i64 3)) 3, (.when 15 false)⟩,
  ⟨some 19, Op.move (Operand.tmp 18), (.when 15 false)⟩,
  ⟨some 20, Op.load 46 (Operand.tmp 3), (.when 19 true)⟩,
  ⟨some 21, Op.move (Operand.tmp 0), (.when 19 true)⟩,
  ⟨some 22, Op.lookup 46 (Operand.tmp 20) (Operand.tmp 21) false, (.when 19 true)⟩,
  ⟨some 23, Op.pick (Operand.tmp 19) (Operand.tmp 22) (Operand.const (Value.bool false)), (.when 15 false)⟩,
  ⟨some 24, Op.pick (Operand.tmp 15) (Operand.const (Value.bool true)) (Operand.tmp 23), .always⟩,
  ⟨some 6, Op.assign (Operand.tmp 24), .always⟩]
def k97_r2 : List SOp :=
  [⟨some 25, Op.load 46 (Operand.tmp 3), .always⟩,
  ⟨some 26, Op.move (Operand.tmp 0), .always⟩,
  ⟨some 27, Op.move (Operand.tmp 0), .always⟩,
  ⟨none, Op.mapUpdate 46 (Operand.tmp 25) (Operand.tmp 26) (Operand.const (Value.bool true)), .always⟩,
  ⟨none, Op.store 9 (Operand.tmp 2) (Operand.tmp 27), .always⟩]
def k97_r3 : List SOp :=
  [⟨some 28, Op.move (Operand.tmp 6), .always⟩,
  ⟨some 29, Op.move (Operand.tmp 28), .always⟩,
  ⟨some 30, Op.move (Operand.tmp 0), (.when 29 false)⟩,
  ⟨some 31, Op.call { callee := Callee.value (Operand.func 94), args := #[Operand.tmp 30], argTypes := #[9] }, (.when 29 false)⟩,
  ⟨some 32, Op.unOp UnOp.not 4 (Operand.tmp 31), (.when 29 false)⟩,
  ⟨some 33, Op.pick (Operand.tmp 29) (Operand.const (Value.bool true)) (Operand.tmp 32), .always⟩,
  ⟨some 5, Op.assign (Operand.tmp 33), .always⟩]
def k97 : SC :=
  (.seq (.region k97_r0)
  (.seq (.region k97_r1)
  (.seq (.region k97_r2)
  (.seq (.region k97_r3)
  .ret))))
theorem k97_func : Tryz.prog.funcs[97]? = some Tryz.f97 := by kernel_rfl
theorem k97_code : (Tryz.f97.body).map compile = some k97 := by kernel_rfl
theorem k97_tmps : Tryz.f97.ntmps = 34 := by kernel_rfl
theorem k97_res : Tryz.f97.results.toList = [ResultVar.tmp 5] := by kernel_rfl
theorem hint_97_31 : hintF 97 31 = 0 := by kernel_rfl
/- "slices.ContainsFunc[[]string,string]" -/
def k98_r0 : List SOp :=
  [⟨some 4, Op.assign (Operand.const (Value.bool false)), .always⟩]
def k98_r1 : List SOp :=
  [⟨some 5, Op.move (Operand.tmp 0), .always⟩,
  ⟨some 6, Op.move (Operand.tmp 1), .always⟩,
  ⟨some 7, Op.call { callee := Callee.value (Operand.func 157), args := #[Operand.tmp 5, Operand.tmp 6], argTypes := #[25, 138] }, .always⟩,
  ⟨some 8, Op.binOp BinOp.geq 3 (Operand.tmp 7) (Operand.const (Value.int IntKind.i64 0)) 3, .always⟩,
  ⟨some 4, Op.assign (Operand.tmp 8), .always⟩]
def k98 : SC :=
  (.seq (.region k98_r0)
  (.seq (.region k98_r1)
  .ret))
theorem k98_func : Tryz.prog.funcs[98]? = some Tryz.f98 := by kernel_rfl
theorem k98_code : (Tryz.f98.body).map compile = some k98 := by kernel_rfl
theorem k98_tmps : Tryz.f98.ntmps = 9 := by kernel_rfl
theorem k98_res : Tryz.f98.results.toList = [ResultVar.tmp 4] := by kernel_rfl
theorem hint_98_7 : hintF 98 7 = 0 := by kernel_rfl
/- "planisphere/object.on" -/
def k99_r0 : List SOp :=
  [⟨some 1, Op.box 48 (Operand.tmp 0), .always⟩,
  ⟨some 2, Op.assign (Operand.const (Value.bool false)), .always⟩]
def k99_r1 : List SOp :=
  [⟨some 3, Op.fieldAddr 48 (Operand.tmp 1) 0, .always⟩,
  ⟨some 4, Op.load 3 (Operand.tmp 3), .always⟩,
  ⟨some 5, Op.binOp BinOp.geq 3 (Operand.tmp 4) (Operand.const (Value.int IntKind.i64 0)) 3, .always⟩,
  ⟨some 6, Op.move (Operand.tmp 5), .always⟩,
  ⟨some 7, Op.fieldAddr 48 (Operand.tmp 1) 0, (.when 6 true)⟩,
  ⟨some 8, Op.load 3 (Operand.tmp 7), (.when 6 true)⟩,
  ⟨some 9, Op.binOp BinOp.lss 3 (Operand.tmp 8) (Operand.const (Value.int IntKind.i64 1048576)) 3, (.when 6 true)⟩,
  ⟨some 10, Op.pick (Operand.tmp 6) (Operand.tmp 9) (Operand.const (Value.bool false)), .always⟩,
  ⟨some 11, Op.move (Operand.tmp 10), .always⟩,
  ⟨some 12, Op.fieldAddr 48 (Operand.tmp 1) 1, (.when 11 true)⟩,
  ⟨some 13, Op.load 3 (Operand.tmp 12), (.when 11 true)⟩,
  ⟨some 14, Op.binOp BinOp.geq 3 (Operand.tmp 13) (Operand.const (Value.int IntKind.i64 0)) 3, (.when 11 true)⟩,
  ⟨some 15, Op.pick (Operand.tmp 11) (Operand.tmp 14) (Operand.const (Value.bool false)), .always⟩,
  ⟨some 16, Op.move (Operand.tmp 15), .always⟩,
  ⟨some 17, Op.fieldAddr 48 (Operand.tmp 1) 1, (.when 16 true)⟩,
  ⟨some 18, Op.load 3 (Operand.tmp 17), (.when 16 true)⟩,
  ⟨some 19, Op.binOp BinOp.lss 3 (Operand.tmp 18) (Operand.const (Value.int IntKind.i64 1048576)) 3, (.when 16 true)⟩,
  ⟨some 20, Op.pick (Operand.tmp 16) (Operand.tmp 19) (Operand.const (Value.bool false)), .always⟩,
  ⟨some 2, Op.assign (Operand.tmp 20), .always⟩]
def k99 : SC :=
  (.seq (.region k99_r0)
  (.seq (.region k99_r1)
  .ret))
theorem k99_func : Tryz.prog.funcs[99]? = some Tryz.f99 := by kernel_rfl
theorem k99_code : (Tryz.f99.body).map compile = some k99 := by kernel_rfl
theorem k99_tmps : Tryz.f99.ntmps = 21 := by kernel_rfl
theorem k99_res : Tryz.f99.results.toList = [ResultVar.tmp 2] := by kernel_rfl
theorem hint_99_1 : hintF 99 1 = 1 := by kernel_rfl
/- "planisphere/lexer.classes" -/
def k156_r0 : List SOp :=
  [⟨some 0, Op.alloc 199, .always⟩]
def k156_r1 : List SOp :=
  [⟨some 1, Op.alloc 199, .always⟩]
def k156_r2 : List SOp :=
  [⟨some 4, Op.move (Operand.const (Value.int IntKind.i64 0)), .always⟩]
def k156_r3 : List SOp :=
  [⟨some 5, Op.binOp BinOp.lss 3 (Operand.tmp 4) (Operand.const (Value.int IntKind.i64 256)) 3, .always⟩]
def k156_r4 : List SOp :=
  [⟨some 6, Op.move (Operand.tmp 4), .always⟩,
  ⟨some 2, Op.assign (Operand.tmp 6), .always⟩]
def k156_r5 : List SOp :=
  [⟨some 7, Op.move (Operand.tmp 2), .always⟩,
  ⟨some 8, Op.convert 3 5 (Operand.tmp 7), .always⟩,
  ⟨some 3, Op.assign (Operand.tmp 8), .always⟩]
def k156_r6 : List SOp :=
  [⟨some 10, Op.move (Operand.tmp 3), .always⟩,
  ⟨some 11, Op.binOp BinOp.leq 5 (Operand.const (Value.int IntKind.u8 97)) (Operand.tmp 10) 5, .always⟩,
  ⟨some 12, Op.move (Operand.tmp 11), .always⟩,
  ⟨some 13, Op.move (Operand.tmp 3), (.when 12 true)⟩,
  ⟨some 14, Op.binOp BinOp.leq 5 (Operand.tmp 13) (Operand.const (Value.int IntKind.u8 122)) 5, (.when 12 true)⟩,
  ⟨some 15, Op.pick (Operand.tmp 12) (Operand.tmp 14) (Operand.const (Value.bool false)), .always⟩,
  ⟨some 9, Op.assign (Operand.tmp 15), .always⟩]
def k156_r7 : List SOp :=
  [⟨some 16, Op.move (Operand.tmp 3), .always⟩,
  ⟨some 17, Op.binOp BinOp.leq 5 (Operand.const (Value.int IntKind.u8 65)) (Operand.tmp 16) 5, .always⟩,
  ⟨some 18, Op.move (Operand.tmp 17), .always⟩,
  ⟨some 19, Op.move (Operand.tmp 3), (.when 18 true)⟩,
  ⟨some 20, Op.binOp BinOp.leq 5 (Operand.tmp 19) (Operand.const (Value.int IntKind.u8 90)) 5, (.when 18 true)⟩,
  ⟨some 21, Op.pick (Operand.tmp 18) (Operand.tmp 20) (Operand.const (Value.bool false)), .always⟩,
  ⟨some 9, Op.assign (Operand.tmp 21), .always⟩]
def k156_r8 : List SOp :=
  [⟨some 22, Op.move (Operand.tmp 2), .always⟩,
  ⟨some 23, Op.indexAddr 199 (Operand.tmp 1) (Operand.tmp 22), .always⟩,
  ⟨none, Op.store 5 (Operand.tmp 23) (Operand.const (Value.int IntKind.u8 3)), .always⟩]
def k156_r9 : List SOp :=
  [⟨some 25, Op.move (Operand.tmp 3), .always⟩,
  ⟨some 26, Op.binOp BinOp.leq 5 (Operand.const (Value.int IntKind.u8 48)) (Operand.tmp 25) 5, .always⟩,
  ⟨some 27, Op.move (Operand.tmp 26), .always⟩,
  ⟨some 28, Op.move (Operand.tmp 3), (.when 27 true)⟩,
  ⟨some 29, Op.binOp BinOp.leq 5 (Operand.tmp 28) (Operand.const (Value.int IntKind.u8 57)) 5, (.when 27 true)⟩,
  ⟨some 30, Op.pick (Operand.tmp 27) (Operand.tmp 29) (Operand.const (Value.bool false)), .always⟩,
  ⟨some 24, Op.assign (Operand.tmp 30), .always⟩]
def k156_r10 : List SOp :=
  [⟨some 31, Op.move (Operand.tmp 2), .always⟩,
  ⟨some 32, Op.indexAddr 199 (Operand.tmp 1) (Operand.tmp 31), .always⟩,
  ⟨none, Op.store 5 (Operand.tmp 32) (Operand.const (Value.int IntKind.u8 4)), .always⟩]
def k156_r11 : List SOp :=
  [⟨some 34, Op.move (Operand.tmp 3), .always⟩,
  ⟨some 35, Op.call { callee := Callee.value (Operand.func 228), args := #[Operand.const (Value.string { data := #[32, 9, 10] }), Operand.tmp 34], argTypes := #[9, 5] }, .always⟩,
  ⟨some 36, Op.binOp BinOp.geq 3 (Operand.tmp 35) (Operand.const (Value.int IntKind.i64 0)) 3, .always⟩,
  ⟨some 33, Op.assign (Operand.tmp 36), .always⟩]
def k156_r12 : List SOp :=
  [⟨some 37, Op.move (Operand.tmp 2), .always⟩,
  ⟨some 38, Op.indexAddr 199 (Operand.tmp 1) (Operand.tmp 37), .always⟩,
  ⟨none, Op.store 5 (Operand.tmp 38) (Operand.const (Value.int IntKind.u8 1)), .always⟩]
def k156_r13 : List SOp :=
  [⟨some 40, Op.move (Operand.tmp 3), .always⟩,
  ⟨some 41, Op.call { callee := Callee.value (Operand.func 228), args := #[Operand.const (Value.string { data := #[59, 44, 46, 58, 40, 41, 123, 125, 91, 93, 61, 60, 62, 47, 45] }), Operand.tmp 40], argTypes := #[9, 5] }, .always⟩,
  ⟨some 42, Op.binOp BinOp.geq 3 (Operand.tmp 41) (Operand.const (Value.int IntKind.i64 0)) 3, .always⟩,
  ⟨some 39, Op.assign (Operand.tmp 42), .always⟩]
def k156_r14 : List SOp :=
  [⟨some 43, Op.move (Operand.tmp 2), .always⟩,
  ⟨some 44, Op.indexAddr 199 (Operand.tmp 1) (Operand.tmp 43), .always⟩,
  ⟨none, Op.store 5 (Operand.tmp 44) (Operand.const (Value.int IntKind.u8 6)), .always⟩]
def k156_r15 : List SOp :=
  [⟨some 45, Op.binOp BinOp.add 3 (Operand.tmp 4) (Operand.const (Value.int IntKind.i64 1)) 3, .always⟩,
  ⟨some 4, Op.move (Operand.tmp 45), .always⟩]
def k156_l0 : SC :=
  (.seq (.region k156_r3)
  (.seq (.cond (Operand.tmp 5) .skip (.exit 0))
  (.seq (.block 1 (.seq (.region k156_r4)
  (.seq (.region k156_r5)
  (.block 2 (.seq (.seq (.region k156_r6)
  (.cond (Operand.tmp 9) .skip (.region k156_r7)))
  (.cond (Operand.tmp 9) (.region k156_r8) (.seq (.region k156_r9)
  (.cond (Operand.tmp 24) (.region k156_r10) (.seq (.region k156_r11)
  (.cond (Operand.tmp 33) (.region k156_r12) (.seq (.region k156_r13)
  (.cond (Operand.tmp 39) (.region k156_r14) .skip))))))))))))
  (.region k156_r15))))
def k156_r16 : List SOp :=
  [⟨some 46, Op.indexAddr 199 (Operand.tmp 1) (Operand.const (Value.int IntKind.i64 35)), .always⟩,
  ⟨none, Op.store 5 (Operand.tmp 46) (Operand.const (Value.int IntKind.u8 2)), .always⟩,
  ⟨some 47, Op.indexAddr 199 (Operand.tmp 1) (Operand.const (Value.int IntKind.i64 95)), .always⟩,
  ⟨none, Op.store 5 (Operand.tmp 47) (Operand.const (Value.int IntKind.u8 5)), .always⟩,
  ⟨some 48, Op.indexAddr 199 (Operand.tmp 1) (Operand.const (Value.int IntKind.i64 34)), .always⟩,
  ⟨none, Op.store 5 (Operand.tmp 48) (Operand.const (Value.int IntKind.u8 7)), .always⟩]
def k156_r17 : List SOp :=
  [⟨some 49, Op.load 199 (Operand.tmp 1), .always⟩,
  ⟨none, Op.store 199 (Operand.tmp 0) (Operand.tmp 49), .always⟩]
def k156 : SC :=
  (.seq (.region k156_r0)
  (.seq (.region k156_r1)
  (.seq (.seq (.region k156_r2)
  (.block 0 (.loop k156_l0)))
  (.seq (.region k156_r16)
  (.seq (.region k156_r17)
  .ret)))))
theorem k156_func : Tryz.prog.funcs[156]? = some Tryz.f156 := by kernel_rfl
theorem k156_code : (Tryz.f156.body).map compile = some k156 := by kernel_rfl
theorem k156_tmps : Tryz.f156.ntmps = 50 := by kernel_rfl
theorem k156_res : Tryz.f156.results.toList = [ResultVar.cell 0 199] := by kernel_rfl
theorem hint_156_0 : hintF 156 0 = 1 := by kernel_rfl
theorem hint_156_1 : hintF 156 1 = 1 := by kernel_rfl
theorem hint_156_35 : hintF 156 35 = 0 := by kernel_rfl
theorem hint_156_41 : hintF 156 41 = 0 := by kernel_rfl
/- "slices.IndexFunc[[]string,string]" -/
def k157_r0 : List SOp :=
  [⟨some 4, Op.assign (Operand.const (Value.int IntKind.i64 0)), .always⟩]
def k157_r1 : List SOp :=
  [⟨some 6, Op.move (Operand.tmp 0), .always⟩,
  ⟨some 7, Op.call { callee := Callee.builtin Builtin.len, args := #[Operand.tmp 6], argTypes := #[25] }, .always⟩,
  ⟨some 8, Op.move (Operand.const (Value.int IntKind.i64 0)), .always⟩]
def k157_r2 : List SOp :=
  [⟨some 9, Op.binOp BinOp.lss 3 (Operand.tmp 8) (Operand.tmp 7) 3, .always⟩]
def k157_r3 : List SOp :=
  [⟨some 10, Op.move (Operand.tmp 8), .always⟩,
  ⟨some 5, Op.assign (Operand.tmp 10), .always⟩]
def k157_r4 : List SOp :=
  [⟨some 11, Op.move (Operand.tmp 1), .always⟩,
  ⟨some 12, Op.move (Operand.tmp 0), .always⟩,
  ⟨some 13, Op.move (Operand.tmp 5), .always⟩,
  ⟨some 14, Op.indexAddr 25 (Operand.tmp 12) (Operand.tmp 13), .always⟩,
  ⟨some 15, Op.load 9 (Operand.tmp 14), .always⟩,
  ⟨some 16, Op.call { callee := Callee.value (Operand.tmp 11), args := #[Operand.tmp 15], argTypes := #[9] }, .always⟩]
def k157_r5 : List SOp :=
  [⟨some 17, Op.move (Operand.tmp 5), .always⟩,
  ⟨some 4, Op.assign (Operand.tmp 17), .always⟩]
def k157_r6 : List SOp :=
  [⟨some 18, Op.binOp BinOp.add 3 (Operand.tmp 8) (Operand.const (Value.int IntKind.i64 1)) 3, .always⟩,
  ⟨some 8, Op.move (Operand.tmp 18), .always⟩]
def k157_l0 : SC :=
  (.seq (.region k157_r2)
  (.seq (.cond (Operand.tmp 9) .skip (.exit 0))
  (.seq (.block 1 (.seq (.region k157_r3)
  (.seq (.region k157_r4)
  (.cond (Operand.tmp 16) (.seq (.region k157_r5)
  .ret) .skip))))
  (.region k157_r6))))
def k157_r7 : List SOp :=
  [⟨some 4, Op.assign (Operand.const (Value.int IntKind.i64 (-1))), .always⟩]
def k157 : SC :=
  (.seq (.region k157_r0)
  (.seq (.seq (.region k157_r1)
  (.block 0 (.loop k157_l0)))
  (.seq (.region k157_r7)
  .ret)))
theorem k157_func : Tryz.prog.funcs[157]? = some Tryz.f157 := by kernel_rfl
theorem k157_code : (Tryz.f157.body).map compile = some k157 := by kernel_rfl
theorem k157_tmps : Tryz.f157.ntmps = 19 := by kernel_rfl
theorem k157_res : Tryz.f157.results.toList = [ResultVar.tmp 4] := by kernel_rfl
theorem hint_157_7 : hintF 157 7 = 0 := by kernel_rfl
theorem hint_157_16 : hintF 157 16 = 0 := by kernel_rfl

theorem bd_24 (ps : List (Nat × Operand)) (e : Env) : buildA Tryz.prog 24 ps e = (zeroA Tryz.prog 24).bind fun z => (fillA (fun i => ([(0, 1)] : List (Nat × Nat))[i]?) e z.cells ps).bind fun c => some (.agg c) := by kernel_rfl
theorem bd_29 (ps : List (Nat × Operand)) (e : Env) : buildA Tryz.prog 29 ps e = (zeroA Tryz.prog 29).bind fun z => (fillA (fun i => ([(0, 1), (1, 1), (2, 1), (3, 1), (4, 1), (5, 1)] : List (Nat × Nat))[i]?) e z.cells ps).bind fun c => some (.agg c) := by kernel_rfl
theorem bd_31 (ps : List (Nat × Operand)) (e : Env) : buildA Tryz.prog 31 ps e = (zeroA Tryz.prog 31).bind fun z => (fillA (fun i => ([(0, 1), (1, 1), (2, 1)] : List (Nat × Nat))[i]?) e z.cells ps).bind fun c => some (.agg c) := by kernel_rfl
theorem bd_48 (ps : List (Nat × Operand)) (e : Env) : buildA Tryz.prog 48 ps e = (zeroA Tryz.prog 48).bind fun z => (fillA (fun i => ([(0, 1), (1, 1)] : List (Nat × Nat))[i]?) e z.cells ps).bind fun c => some (.agg c) := by kernel_rfl
theorem bd_51 (ps : List (Nat × Operand)) (e : Env) : buildA Tryz.prog 51 ps e = (zeroA Tryz.prog 51).bind fun z => (fillA (fun i => ([(0, 1), (1, 1), (2, 2), (4, 1), (5, 1)] : List (Nat × Nat))[i]?) e z.cells ps).bind fun c => some (.agg c) := by kernel_rfl
theorem bd_66 (ps : List (Nat × Operand)) (e : Env) : buildA Tryz.prog 66 ps e = (zeroA Tryz.prog 66).bind fun z => (fillA (fun i => ([(0, 1), (1, 1), (2, 1), (3, 2), (5, 1), (6, 1), (7, 1)] : List (Nat × Nat))[i]?) e z.cells ps).bind fun c => some (.agg c) := by kernel_rfl
theorem bd_198 (ps : List (Nat × Operand)) (e : Env) : buildA Tryz.prog 198 ps e = (zeroA Tryz.prog 198).bind fun z => (fillA (fun i => some (i * 1, 1)) e z.cells ps).bind fun c => some (.agg c) := by kernel_rfl
theorem bd_201 (ps : List (Nat × Operand)) (e : Env) : buildA Tryz.prog 201 ps e = (zeroA Tryz.prog 201).bind fun z => (fillA (fun i => some (i * 1, 1)) e z.cells ps).bind fun c => some (.agg c) := by kernel_rfl
theorem rd_3 (cs : List AVal) (off : Nat) : readCells Tryz.prog 3 cs off = (cs.drop off).head? := by kernel_rfl
theorem rd_5 (cs : List AVal) (off : Nat) : readCells Tryz.prog 5 cs off = (cs.drop off).head? := by kernel_rfl
theorem rd_9 (cs : List AVal) (off : Nat) : readCells Tryz.prog 9 cs off = (cs.drop off).head? := by kernel_rfl
theorem rd_22 (cs : List AVal) (off : Nat) : readCells Tryz.prog 22 cs off = (cs.drop off).head? := by kernel_rfl
theorem rd_24 (cs : List AVal) (off : Nat) : readCells Tryz.prog 24 cs off = (cut cs off 1).bind fun r => some (.agg r) := by kernel_rfl
theorem rd_25 (cs : List AVal) (off : Nat) : readCells Tryz.prog 25 cs off = (cs.drop off).head? := by kernel_rfl
theorem rd_29 (cs : List AVal) (off : Nat) : readCells Tryz.prog 29 cs off = (cut cs off 6).bind fun r => some (.agg r) := by kernel_rfl
theorem rd_31 (cs : List AVal) (off : Nat) : readCells Tryz.prog 31 cs off = (cut cs off 3).bind fun r => some (.agg r) := by kernel_rfl
theorem rd_46 (cs : List AVal) (off : Nat) : readCells Tryz.prog 46 cs off = (cs.drop off).head? := by kernel_rfl
theorem rd_48 (cs : List AVal) (off : Nat) : readCells Tryz.prog 48 cs off = (cut cs off 2).bind fun r => some (.agg r) := by kernel_rfl
theorem rd_49 (cs : List AVal) (off : Nat) : readCells Tryz.prog 49 cs off = (cs.drop off).head? := by kernel_rfl
theorem rd_51 (cs : List AVal) (off : Nat) : readCells Tryz.prog 51 cs off = (cut cs off 6).bind fun r => some (.agg r) := by kernel_rfl
theorem rd_64 (cs : List AVal) (off : Nat) : readCells Tryz.prog 64 cs off = (cut cs off 2).bind fun r => some (.agg r) := by kernel_rfl
theorem rd_72 (cs : List AVal) (off : Nat) : readCells Tryz.prog 72 cs off = (cs.drop off).head? := by kernel_rfl
theorem rd_74 (cs : List AVal) (off : Nat) : readCells Tryz.prog 74 cs off = (cs.drop off).head? := by kernel_rfl
theorem rd_199 (cs : List AVal) (off : Nat) : readCells Tryz.prog 199 cs off = (cut cs off 256).bind fun r => some (.agg r) := by kernel_rfl
theorem sz_5 : sizeA Tryz.prog 5 = some 1 := by kernel_rfl
theorem sz_9 : sizeA Tryz.prog 9 = some 1 := by kernel_rfl
theorem sz_22 : sizeA Tryz.prog 22 = some 1 := by kernel_rfl
theorem sz_24 : sizeA Tryz.prog 24 = some 1 := by kernel_rfl
theorem sz_29 : sizeA Tryz.prog 29 = some 6 := by kernel_rfl
theorem sz_31 : sizeA Tryz.prog 31 = some 3 := by kernel_rfl
theorem sz_46 : sizeA Tryz.prog 46 = some 1 := by kernel_rfl
theorem sz_51 : sizeA Tryz.prog 51 = some 6 := by kernel_rfl
theorem sz_64 : sizeA Tryz.prog 64 = some 2 := by kernel_rfl
theorem sz_72 : sizeA Tryz.prog 72 = some 1 := by kernel_rfl
theorem sz_74 : sizeA Tryz.prog 74 = some 1 := by kernel_rfl
theorem sz_198 : sizeA Tryz.prog 198 = some 6 := by kernel_rfl
theorem sz_199 : sizeA Tryz.prog 199 = some 256 := by kernel_rfl
theorem zr_4 : zeroA Tryz.prog 4 = some (.bool false) := by kernel_rfl
theorem zr_9 : zeroA Tryz.prog 9 = some (.str []) := by kernel_rfl
theorem zr_24 : zeroA Tryz.prog 24 = some (.agg [.nils]) := by kernel_rfl
theorem zr_29 : zeroA Tryz.prog 29 = some (.agg [.nils, .nils, .nils, (.int .i64 0), .nils, .nils]) := by kernel_rfl
theorem zr_31 : zeroA Tryz.prog 31 = some (.agg [(.str []), (.int .i64 0), .nils]) := by kernel_rfl
theorem zr_46 : zeroA Tryz.prog 46 = some .nilm := by kernel_rfl
theorem zr_48 : zeroA Tryz.prog 48 = some (.agg [(.int .i64 0), (.int .i64 0)]) := by kernel_rfl
theorem zr_51 : zeroA Tryz.prog 51 = some (.agg [(.str []), (.int .i64 0), (.int .i64 0), (.int .i64 0), .nils, .nils]) := by kernel_rfl
theorem zr_64 : zeroA Tryz.prog 64 = some (.agg [(.str []), (.str [])]) := by kernel_rfl
theorem zr_66 : zeroA Tryz.prog 66 = some (.agg [(.bool false), (.str []), (.int .i64 0), (.str []), (.str []), (.int .i64 0), (.str []), .nils]) := by kernel_rfl
theorem zr_72 : zeroA Tryz.prog 72 = some .nilm := by kernel_rfl
theorem zr_74 : zeroA Tryz.prog 74 = some .nilf := by kernel_rfl
theorem zr_198 : zeroA Tryz.prog 198 = some (.agg [(.str []), (.str []), (.str []), (.str []), (.str []), (.str [])]) := by kernel_rfl
theorem zr_199 : zeroA Tryz.prog 199 = some (.agg [(.int .u8 0), (.int .u8 0), (.int .u8 0), (.int .u8 0), (.int .u8 0), (.int .u8 0), (.int .u8 0), (.int .u8 0), (.int .u8 0), (.int .u8 0), (.int .u8 0), (.int .u8 0), (.int .u8 0), (.int .u8 0), (.int .u8 0), (.int .u8 0), (.int .u8 0), (.int .u8 0), (.int .u8 0), (.int .u8 0), (.int .u8 0), (.int .u8 0), (.int .u8 0), (.int .u8 0), (.int .u8 0), (.int .u8 0), (.int .u8 0), (.int .u8 0), (.int .u8 0), (.int .u8 0), (.int .u8 0), (.int .u8 0), (.int .u8 0), (.int .u8 0), (.int .u8 0), (.int .u8 0), (.int .u8 0), (.int .u8 0), (.int .u8 0), (.int .u8 0), (.int .u8 0), (.int .u8 0), (.int .u8 0), (.int .u8 0), (.int .u8 0), (.int .u8 0), (.int .u8 0), (.int .u8 0), (.int .u8 0), (.int .u8 0), (.int .u8 0), (.int .u8 0), (.int .u8 0), (.int .u8 0), (.int .u8 0), (.int .u8 0), (.int .u8 0), (.int .u8 0), (.int .u8 0), (.int .u8 0), (.int .u8 0), (.int .u8 0), (.int .u8 0), (.int .u8 0), (.int .u8 0), (.int .u8 0), (.int .u8 0), (.int .u8 0), (.int .u8 0), (.int .u8 0), (.int .u8 0), (.int .u8 0), (.int .u8 0), (.int .u8 0), (.int .u8 0), (.int .u8 0), (.int .u8 0), (.int .u8 0), (.int .u8 0), (.int .u8 0), (.int .u8 0), (.int .u8 0), (.int .u8 0), (.int .u8 0), (.int .u8 0), (.int .u8 0), (.int .u8 0), (.int .u8 0), (.int .u8 0), (.int .u8 0), (.int .u8 0), (.int .u8 0), (.int .u8 0), (.int .u8 0), (.int .u8 0), (.int .u8 0), (.int .u8 0), (.int .u8 0), (.int .u8 0), (.int .u8 0), (.int .u8 0), (.int .u8 0), (.int .u8 0), (.int .u8 0), (.int .u8 0), (.int .u8 0), (.int .u8 0), (.int .u8 0), (.int .u8 0), (.int .u8 0), (.int .u8 0), (.int .u8 0), (.int .u8 0), (.int .u8 0), (.int .u8 0), (.int .u8 0), (.int .u8 0), (.int .u8 0), (.int .u8 0), (.int .u8 0), (.int .u8 0), (.int .u8 0), (.int .u8 0), (.int .u8 0), (.int .u8 0), (.int .u8 0), (.int .u8 0), (.int .u8 0), (.int .u8 0), (.int .u8 0), (.int .u8 0), (.int .u8 0), (.int .u8 0), (.int .u8 0), (.int .u8 0), (.int .u8 0), (.int .u8 0), (.int .u8 0), (.int .u8 0), (.int .u8 0), (.int .u8 0), (.int .u8 0), (.int .u8 0), (.int .u8 0), (.int .u8 0), (.int .u8 0), (.int .u8 0), (.int .u8 0), (.int .u8 0), (.int .u8 0), (.int .u8 0), (.int .u8 0), (.int .u8 0), (.int .u8 0), (.int .u8 0), (.int .u8 0), (.int .u8 0), (.int .u8 0), (.int .u8 0), (.int .u8 0), (.int .u8 0), (.int .u8 0), (.int .u8 0), (.int .u8 0), (.int .u8 0), (.int .u8 0), (.int .u8 0), (.int .u8 0), (.int .u8 0), (.int .u8 0), (.int .u8 0), (.int .u8 0), (.int .u8 0), (.int .u8 0), (.int .u8 0), (.int .u8 0), (.int .u8 0), (.int .u8 0), (.int .u8 0), (.int .u8 0), (.int .u8 0), (.int .u8 0), (.int .u8 0), (.int .u8 0), (.int .u8 0), (.int .u8 0), (.int .u8 0), (.int .u8 0), (.int .u8 0), (.int .u8 0), (.int .u8 0), (.int .u8 0), (.int .u8 0), (.int .u8 0), (.int .u8 0), (.int .u8 0), (.int .u8 0), (.int .u8 0), (.int .u8 0), (.int .u8 0), (.int .u8 0), (.int .u8 0), (.int .u8 0), (.int .u8 0), (.int .u8 0), (.int .u8 0), (.int .u8 0), (.int .u8 0), (.int .u8 0), (.int .u8 0), (.int .u8 0), (.int .u8 0), (.int .u8 0), (.int .u8 0), (.int .u8 0), (.int .u8 0), (.int .u8 0), (.int .u8 0), (.int .u8 0), (.int .u8 0), (.int .u8 0), (.int .u8 0), (.int .u8 0), (.int .u8 0), (.int .u8 0), (.int .u8 0), (.int .u8 0), (.int .u8 0), (.int .u8 0), (.int .u8 0), (.int .u8 0), (.int .u8 0), (.int .u8 0), (.int .u8 0), (.int .u8 0), (.int .u8 0), (.int .u8 0), (.int .u8 0), (.int .u8 0), (.int .u8 0), (.int .u8 0), (.int .u8 0), (.int .u8 0), (.int .u8 0), (.int .u8 0), (.int .u8 0), (.int .u8 0), (.int .u8 0), (.int .u8 0), (.int .u8 0), (.int .u8 0), (.int .u8 0), (.int .u8 0), (.int .u8 0), (.int .u8 0), (.int .u8 0)]) := by kernel_rfl
theorem zr_201 : zeroA Tryz.prog 201 = some (.agg [(.int .i64 0), (.int .i64 0), (.int .i64 0), (.int .i64 0), (.int .i64 0), (.int .i64 0)]) := by kernel_rfl
theorem fa_24_0_l (lc : Ag.Loc) (l g o : Nat) : fieldAddrA Tryz.prog lc 24 (.lref l g o) 0 = bif Nat.beq (lc.gen l) g then some (.lref l g (o + 0)) else none := by kernel_rfl
theorem fa_24_0_r (lc : Ag.Loc) (cs : List AVal) : fieldAddrA Tryz.prog lc 24 (.ro cs) 0 = some (.ro (cs.drop 0)) := by kernel_rfl
theorem fa_24_0_p (lc : Ag.Loc) (m o : Nat) : fieldAddrA Tryz.prog lc 24 (.ptr m o) 0 = some (.ptr m (o + 0)) := by kernel_rfl
theorem fa_48_0_l (lc : Ag.Loc) (l g o : Nat) : fieldAddrA Tryz.prog lc 48 (.lref l g o) 0 = bif Nat.beq (lc.gen l) g then some (.lref l g (o + 0)) else none := by kernel_rfl
theorem fa_48_0_r (lc : Ag.Loc) (cs : List AVal) : fieldAddrA Tryz.prog lc 48 (.ro cs) 0 = some (.ro (cs.drop 0)) := by kernel_rfl
theorem fa_48_0_p (lc : Ag.Loc) (m o : Nat) : fieldAddrA Tryz.prog lc 48 (.ptr m o) 0 = some (.ptr m (o + 0)) := by kernel_rfl
theorem fa_48_1_l (lc : Ag.Loc) (l g o : Nat) : fieldAddrA Tryz.prog lc 48 (.lref l g o) 1 = bif Nat.beq (lc.gen l) g then some (.lref l g (o + 1)) else none := by kernel_rfl
theorem fa_48_1_r (lc : Ag.Loc) (cs : List AVal) : fieldAddrA Tryz.prog lc 48 (.ro cs) 1 = some (.ro (cs.drop 1)) := by kernel_rfl
theorem fa_48_1_p (lc : Ag.Loc) (m o : Nat) : fieldAddrA Tryz.prog lc 48 (.ptr m o) 1 = some (.ptr m (o + 1)) := by kernel_rfl
theorem fa_51_0_l (lc : Ag.Loc) (l g o : Nat) : fieldAddrA Tryz.prog lc 51 (.lref l g o) 0 = bif Nat.beq (lc.gen l) g then some (.lref l g (o + 0)) else none := by kernel_rfl
theorem fa_51_0_r (lc : Ag.Loc) (cs : List AVal) : fieldAddrA Tryz.prog lc 51 (.ro cs) 0 = some (.ro (cs.drop 0)) := by kernel_rfl
theorem fa_51_0_p (lc : Ag.Loc) (m o : Nat) : fieldAddrA Tryz.prog lc 51 (.ptr m o) 0 = some (.ptr m (o + 0)) := by kernel_rfl
theorem fa_51_1_l (lc : Ag.Loc) (l g o : Nat) : fieldAddrA Tryz.prog lc 51 (.lref l g o) 1 = bif Nat.beq (lc.gen l) g then some (.lref l g (o + 1)) else none := by kernel_rfl
theorem fa_51_1_r (lc : Ag.Loc) (cs : List AVal) : fieldAddrA Tryz.prog lc 51 (.ro cs) 1 = some (.ro (cs.drop 1)) := by kernel_rfl
theorem fa_51_1_p (lc : Ag.Loc) (m o : Nat) : fieldAddrA Tryz.prog lc 51 (.ptr m o) 1 = some (.ptr m (o + 1)) := by kernel_rfl
theorem fa_51_2_l (lc : Ag.Loc) (l g o : Nat) : fieldAddrA Tryz.prog lc 51 (.lref l g o) 2 = bif Nat.beq (lc.gen l) g then some (.lref l g (o + 2)) else none := by kernel_rfl
theorem fa_51_2_r (lc : Ag.Loc) (cs : List AVal) : fieldAddrA Tryz.prog lc 51 (.ro cs) 2 = some (.ro (cs.drop 2)) := by kernel_rfl
theorem fa_51_2_p (lc : Ag.Loc) (m o : Nat) : fieldAddrA Tryz.prog lc 51 (.ptr m o) 2 = some (.ptr m (o + 2)) := by kernel_rfl
theorem fa_51_3_l (lc : Ag.Loc) (l g o : Nat) : fieldAddrA Tryz.prog lc 51 (.lref l g o) 3 = bif Nat.beq (lc.gen l) g then some (.lref l g (o + 4)) else none := by kernel_rfl
theorem fa_51_3_r (lc : Ag.Loc) (cs : List AVal) : fieldAddrA Tryz.prog lc 51 (.ro cs) 3 = some (.ro (cs.drop 4)) := by kernel_rfl
theorem fa_51_3_p (lc : Ag.Loc) (m o : Nat) : fieldAddrA Tryz.prog lc 51 (.ptr m o) 3 = some (.ptr m (o + 4)) := by kernel_rfl
theorem fa_51_4_l (lc : Ag.Loc) (l g o : Nat) : fieldAddrA Tryz.prog lc 51 (.lref l g o) 4 = bif Nat.beq (lc.gen l) g then some (.lref l g (o + 5)) else none := by kernel_rfl
theorem fa_51_4_r (lc : Ag.Loc) (cs : List AVal) : fieldAddrA Tryz.prog lc 51 (.ro cs) 4 = some (.ro (cs.drop 5)) := by kernel_rfl
theorem fa_51_4_p (lc : Ag.Loc) (m o : Nat) : fieldAddrA Tryz.prog lc 51 (.ptr m o) 4 = some (.ptr m (o + 5)) := by kernel_rfl
theorem fa_64_0_l (lc : Ag.Loc) (l g o : Nat) : fieldAddrA Tryz.prog lc 64 (.lref l g o) 0 = bif Nat.beq (lc.gen l) g then some (.lref l g (o + 0)) else none := by kernel_rfl
theorem fa_64_0_r (lc : Ag.Loc) (cs : List AVal) : fieldAddrA Tryz.prog lc 64 (.ro cs) 0 = some (.ro (cs.drop 0)) := by kernel_rfl
theorem fa_64_0_p (lc : Ag.Loc) (m o : Nat) : fieldAddrA Tryz.prog lc 64 (.ptr m o) 0 = some (.ptr m (o + 0)) := by kernel_rfl
theorem fa_64_1_l (lc : Ag.Loc) (l g o : Nat) : fieldAddrA Tryz.prog lc 64 (.lref l g o) 1 = bif Nat.beq (lc.gen l) g then some (.lref l g (o + 1)) else none := by kernel_rfl
theorem fa_64_1_r (lc : Ag.Loc) (cs : List AVal) : fieldAddrA Tryz.prog lc 64 (.ro cs) 1 = some (.ro (cs.drop 1)) := by kernel_rfl
theorem fa_64_1_p (lc : Ag.Loc) (m o : Nat) : fieldAddrA Tryz.prog lc 64 (.ptr m o) 1 = some (.ptr m (o + 1)) := by kernel_rfl
theorem fd_51_3 (cs : List AVal) : fieldA Tryz.prog 51 (.agg cs) 3 = readCells Tryz.prog 25 cs 4 := by kernel_rfl
theorem ia_22_l (lc : Ag.Loc) (n : Nat) (xs : List AVal) (r : Right) (i : AVal) : indexAddrA Tryz.prog lc 22 (.list n xs r) i = (natOf i).bind fun i => bif Nat.beq n 6 && Nat.blt i xs.length then some (.ro (nthL xs i).cells) else none := by kernel_rfl
theorem ia_22_a (lc : Ag.Loc) (n m o l c : Nat) (i : AVal) : indexAddrA Tryz.prog lc 22 (.arr n m o l c) i = (natOf i).bind fun i => bif Nat.beq n 6 && Nat.blt i l then some (.ptr m (o + i * 6)) else none := by kernel_rfl
theorem ia_25_l (lc : Ag.Loc) (n : Nat) (xs : List AVal) (r : Right) (i : AVal) : indexAddrA Tryz.prog lc 25 (.list n xs r) i = (natOf i).bind fun i => bif Nat.beq n 1 && Nat.blt i xs.length then some (.ro (nthL xs i).cells) else none := by kernel_rfl
theorem ia_25_a (lc : Ag.Loc) (n m o l c : Nat) (i : AVal) : indexAddrA Tryz.prog lc 25 (.arr n m o l c) i = (natOf i).bind fun i => bif Nat.beq n 1 && Nat.blt i l then some (.ptr m (o + i * 1)) else none := by kernel_rfl
theorem ia_49_l (lc : Ag.Loc) (n : Nat) (xs : List AVal) (r : Right) (i : AVal) : indexAddrA Tryz.prog lc 49 (.list n xs r) i = (natOf i).bind fun i => bif Nat.beq n 2 && Nat.blt i xs.length then some (.ro (nthL xs i).cells) else none := by kernel_rfl
theorem ia_49_a (lc : Ag.Loc) (n m o l c : Nat) (i : AVal) : indexAddrA Tryz.prog lc 49 (.arr n m o l c) i = (natOf i).bind fun i => bif Nat.beq n 2 && Nat.blt i l then some (.ptr m (o + i * 2)) else none := by kernel_rfl
theorem ia_198_l (lc : Ag.Loc) (l g o : Nat) (i : AVal) : indexAddrA Tryz.prog lc 198 (.lref l g o) i = (natOf i).bind fun i => bif Nat.blt i 6 then bif Nat.beq (lc.gen l) g then some (.lref l g (o + i * 1)) else none else none := by kernel_rfl
theorem ia_199_l (lc : Ag.Loc) (l g o : Nat) (i : AVal) : indexAddrA Tryz.prog lc 199 (.lref l g o) i = (natOf i).bind fun i => bif Nat.blt i 256 then bif Nat.beq (lc.gen l) g then some (.lref l g (o + i * 1)) else none else none := by kernel_rfl
theorem ix_9 (s : List UInt8) (i : AVal) : indexA Tryz.prog 9 (.str s) i = (natOf i).bind fun i => match s.drop i with | b :: _ => some (.int .u8 b.toNat) | [] => none := by kernel_rfl
theorem ix_201 (cs : List AVal) (i : AVal) : indexA Tryz.prog 201 (.agg cs) i = (natOf i).bind fun i => bif Nat.blt i 6 then readCells Tryz.prog 3 cs (i * 1) else none := by kernel_rfl
theorem ln_9 (mk : Mask) (b : List UInt8) (s : St) : lenA Tryz.prog mk 9 (.str b) s = some (.int .i64 b.length) := by kernel_rfl
theorem ln_22_n (mk : Mask) (s : St) : lenA Tryz.prog mk 22 .nils s = some (.int .i64 (0 : Nat)) := by kernel_rfl
theorem ln_22_l (mk : Mask) (n : Nat) (xs : List AVal) (r : Right) (s : St) : lenA Tryz.prog mk 22 (.list n xs r) s = some (.int .i64 xs.length) := by kernel_rfl
theorem ln_25_n (mk : Mask) (s : St) : lenA Tryz.prog mk 25 .nils s = some (.int .i64 (0 : Nat)) := by kernel_rfl
theorem ln_25_l (mk : Mask) (n : Nat) (xs : List AVal) (r : Right) (s : St) : lenA Tryz.prog mk 25 (.list n xs r) s = some (.int .i64 xs.length) := by kernel_rfl
theorem ln_49_n (mk : Mask) (s : St) : lenA Tryz.prog mk 49 .nils s = some (.int .i64 (0 : Nat)) := by kernel_rfl
theorem ln_49_l (mk : Mask) (n : Nat) (xs : List AVal) (r : Right) (s : St) : lenA Tryz.prog mk 49 (.list n xs r) s = some (.int .i64 xs.length) := by kernel_rfl
theorem el_22 : sliceElem Tryz.prog 22 = some ⟨6, 88, true, (.agg [(.str []), (.int .i64 0), (.int .i64 0), (.int .i64 0), .nils, .nils])⟩ := by kernel_rfl
theorem is_22 : isSliceT Tryz.prog 22 = true := by kernel_rfl
theorem el_25 : sliceElem Tryz.prog 25 = some ⟨1, 16, false, (.str [])⟩ := by kernel_rfl
theorem is_25 : isSliceT Tryz.prog 25 = true := by kernel_rfl
theorem el_27 : sliceElem Tryz.prog 27 = some ⟨8, 112, true, (.agg [(.bool false), (.str []), (.int .i64 0), (.str []), (.str []), (.int .i64 0), (.str []), .nils])⟩ := by kernel_rfl
theorem is_27 : isSliceT Tryz.prog 27 = true := by kernel_rfl
theorem el_35 : sliceElem Tryz.prog 35 = some ⟨3, 48, true, (.agg [(.str []), (.int .i64 0), .nils])⟩ := by kernel_rfl
theorem is_35 : isSliceT Tryz.prog 35 = true := by kernel_rfl
theorem mp_46 (k : List UInt8) : keyType Tryz.prog 46 (.str k) = some (9, 4) := by kernel_rfl
theorem eq_9 (a b : List UInt8) : eqT Tryz.prog 8 9 (.str a) (.str b) = some (a == b) := by kernel_rfl
theorem mp_72 (k : List UInt8) : keyType Tryz.prog 72 (.str k) = some (9, 51) := by kernel_rfl
/- facts: bd_24, bd_29, bd_31, bd_48, bd_51, bd_66, bd_198, bd_201, rd_3, rd_5, rd_9, rd_22, rd_24, rd_25, rd_29, rd_31, rd_46, rd_48, rd_49, rd_51, rd_64, rd_72, rd_74, rd_199, sz_5, sz_9, sz_22, sz_24, sz_29, sz_31, sz_46, sz_51, sz_64, sz_72, sz_74, sz_198, sz_199, zr_4, zr_9, zr_24, zr_29, zr_31, zr_46, zr_48, zr_51, zr_64, zr_66, zr_72, zr_74, zr_198, zr_199, zr_201, fa_24_0_l, fa_24_0_r, fa_24_0_p, fa_48_0_l, fa_48_0_r, fa_48_0_p, fa_48_1_l, fa_48_1_r, fa_48_1_p, fa_51_0_l, fa_51_0_r, fa_51_0_p, fa_51_1_l, fa_51_1_r, fa_51_1_p, fa_51_2_l, fa_51_2_r, fa_51_2_p, fa_51_3_l, fa_51_3_r, fa_51_3_p, fa_51_4_l, fa_51_4_r, fa_51_4_p, fa_64_0_l, fa_64_0_r, fa_64_0_p, fa_64_1_l, fa_64_1_r, fa_64_1_p, fd_51_3, ia_22_l, ia_22_a, ia_25_l, ia_25_a, ia_49_l, ia_49_a, ia_198_l, ia_199_l, ix_9, ix_201, ln_9, ln_22_n, ln_22_l, ln_25_n, ln_25_l, ln_49_n, ln_49_l, el_22, is_22, el_25, is_25, el_27, is_27, el_35, is_35, mp_46, eq_9, mp_72 -/
end Go.Proofs.YtnjhbfefpcjjaaaGreat
/- Contracts: tables of them; IndexByteString, which has no body. -/
namespace Go.Proofs.YtnjhbfefpcjjaaaGreat
open Go.Ag

abbrev Sp := List AVal → Option AVal
abbrev Tbl := List (Nat × Sp)
def tblGet (f : Nat) : Tbl → Option Sp
  | [] => none
  | (k, v) :: l => bif Nat.beq k f then some v else tblGet f l
noncomputable def QT (t : Tbl) : Prog := QS fun f => tblGet f t
def TblOk (t : Tbl) : Prop := ∀ p ∈ t, SpecOk Tryz.prog p.1 p.2

theorem tblGet_mem {f : Nat} {sp : Sp} : ∀ {t : Tbl}, tblGet f t = some sp → (f, sp) ∈ t
  | [], h => by cases h
  | (k, v) :: l, h => by
    simp only [tblGet] at h
    cases hk : Nat.beq k f with
    | true =>
      rw [hk] at h
      injection h with h; subst h
      have := Nat.eq_of_beq_eq_true hk
      subst this
      exact List.mem_cons_self
    | false =>
      rw [hk] at h
      exact List.mem_cons_of_mem _ (tblGet_mem h)

theorem names_ok : Tryz.prog.funcs.toList.all (fun fn => !(fn.name == "runtime.NumGoroutine")) = true := by kernel_rfl
theorem mixed_ok : Tryz.prog.follows .mixedOrders = true := by kernel_rfl

theorem good_of {t : Tbl} (h : TblOk t) : Good (QT t) where
  mixed := mixed_ok
  spec f sp hsp args v hv G hp w xs wr hx := h _ (tblGet_mem hsp) args v hv G hp w xs wr hx
  names f fn hf := by
    have hf : Tryz.prog.funcs[f]? = some fn := hf
    have := List.all_eq_true.1 names_ok fn (by
      rw [← Array.getElem?_toList] at hf
      exact List.mem_of_getElem? hf)
    simpa using this

theorem TblOk.nil : TblOk [] := fun _ h => by cases h
theorem TblOk.cons {f : Nat} {sp : Sp} {t : Tbl} (h : SpecOk Tryz.prog f sp) (ht : TblOk t) : TblOk ((f, sp) :: t) := by
  intro p hp
  rcases List.mem_cons.1 hp with rfl | hp
  · exact h
  · exact ht p hp

/-- the first place of a byte -/
def idxB (c : Nat) : List UInt8 → Nat → Int
  | [], _ => -1
  | b :: l, i => bif Nat.beq b.toNat c then (i : Int) else idxB c l (i + 1)
def sp322 : Sp
  | [.str s, .int .u8 (.ofNat c)] => bif Nat.blt c 256 then some (.int .i64 (idxB c s 0)) else none
  | _ => none

theorem idxB_first (c : Nat) (hc : c < 256) : ∀ (l : List UInt8) (i : Nat), idxB c l i = match (List.range l.length).find? (fun j => l[j]! == c.toUInt8) with | some j => ((i + j : Nat) : Int) | none => -1
  | [], i => rfl
  | b :: l, i => by
    rw [idxB, List.length_cons, List.range_succ_eq_map, List.find?_cons]
    have hb : ((b :: l)[0]! == c.toUInt8) = Nat.beq b.toNat c := by
      show (b == c.toUInt8) = _
      cases h : Nat.beq b.toNat c with
      | true =>
        have := Nat.eq_of_beq_eq_true h
        subst this
        simp
      | false =>
        have := Nat.ne_of_beq_eq_false h
        apply beq_eq_false_iff_ne.2
        intro e
        apply this
        rw [e]
        simp [Nat.mod_eq_of_lt hc]
    rw [hb]
    cases h : Nat.beq b.toNat c with
    | true => simp
    | false =>
      simp only [cond_false]
      rw [idxB_first c hc l (i + 1), List.find?_map]
      have hf : ((fun j => (b :: l)[j]! == c.toUInt8) ∘ Nat.succ) = fun j => l[j]! == c.toUInt8 := by
        funext j
        simp [Function.comp]
      rw [hf]
      cases (List.range l.length).find? (fun j => l[j]! == c.toUInt8) with
      | none => rfl
      | some j => simp only [Option.map_some]; show ((i + 1 + j : Nat) : Int) = ((i + (j + 1) : Nat) : Int); congr 1; omega

theorem sp322_ok : SpecOk Tryz.prog 322 sp322 := by
  intro args v hv G h w xs wr hx
  unfold sp322 at hv
  split at hv
  · rename_i s c
    obtain ⟨hc, hv⟩ := bif_none hv
    injection hv with hv; subst hv
    have hc : c < 256 := Nat.le_of_ble_eq_true hc
    cases hx with
    | cons a b =>
      cases b with
      | cons b d =>
        cases d
        cases a
        cases b
        refine .inl ⟨.int .i64 (firstIdx ⟨⟨s⟩⟩ c.toUInt8), w, ?_, G, wr, .refl, ?_⟩
        · have := run_callFunc_extern (P := Tryz.prog) (f := 322) (fn := Tryz.f322) (e := Extern.BytealgIndexByte.indexByte) (by kernel_rfl) (by kernel_rfl) (by kernel_rfl) (by kernel_rfl) (by kernel_rfl) #[.string ⟨⟨s⟩⟩, .int .u8 (.ofNat c)] w
          rw [show (⟨[Value.string ⟨⟨s⟩⟩, .int .u8 (.ofNat c)]⟩ : Array Value) = #[.string ⟨⟨s⟩⟩, .int .u8 (.ofNat c)] from rfl, this, run_indexByte_string]
          rfl
        · have : firstIdx ⟨⟨s⟩⟩ c.toUInt8 = idxB c s 0 := by
            rw [idxB_first c hc]
            unfold firstIdx
            have h1 : (⟨⟨s⟩⟩ : ByteArray).size = s.length := rfl
            rw [h1]
            have h2 : (fun i => (⟨⟨s⟩⟩ : ByteArray)[i]! == c.toUInt8) = fun (j : Nat) => s[j]! == c.toUInt8 := by
              funext i
              congr 1
              by_cases hi : i < s.length
              · rw [getElem!_pos (⟨⟨s⟩⟩ : ByteArray) i hi, getElem!_pos s i hi]; rfl
              · rw [getElem!_neg (⟨⟨s⟩⟩ : ByteArray) i hi, getElem!_neg s i hi]
            rw [h2]
            cases (List.range s.length).find? (fun (j : Nat) => s[j]! == c.toUInt8) <;> simp
          rw [this]
          exact .int _ _
  · cases hv
end Go.Proofs.YtnjhbfefpcjjaaaGreat
