/- The evaluator: values, heap, operations; what its values stand for in memory. -/
import Derived.Calls
import Derived.Laws.Sem
import Derived.Laws.World
import Derived.Laws.Cells
/- The abstract evaluator of Go code: values, heap, operations, regions, calls. -/
namespace Go.Ag
noncomputable section

/-- What an append to a slice may do: 'full': its capacity is its length; 'own n': the token n, while it lives, says that nobody relies on what stands behind it; 'no': nothing is known. -/
inductive Right where
  | full
  | own (n : Nat)
  | no
  deriving Inhabited

inductive AVal where
  | bool (b : Bool)
  | int (k : IntKind) (n : Int)
  | str (s : List UInt8)
  | agg (cs : List AVal)
  | tup (vs : List AVal)
  | nilp
  | ptr (n off : Nat)
  | lref (t g off : Nat)
  | ro (cs : List AVal)
  | nils
  | list (sz : Nat) (xs : List AVal) (r : Right)
  | arr (sz n off len lcap : Nat)
  | nilm
  | map (n : Nat)
  | nilf
  | func (fn : Fn) (first captured : List AVal)
  | nili
  | iface (t : TypeId) (v : AVal)
  | yld (n : Nat)
  | roz (cs : List AVal)
  deriving Inhabited

def AVal.cells : AVal → List AVal
  | .agg cs => cs
  | v => [v]

/-- no reference into a frame, no tuple -/
def AVal.clean : AVal → Bool
  | .lref _ _ _ => false
  | .tup _ => false
  | _ => true

def undefA : AVal := .tup []

structure Ent where
  key : AVal
  val : AVal
  born : Nat
  deriving Inhabited

inductive Trie (α : Type) where
  | nil
  | node (l : Trie α) (v : Option α) (r : Trie α)
  deriving Inhabited

/-- how a piece of code is left -/
inductive Ex where
  | normal
  | exit (id : Nat)
  | ret
  deriving Inhabited

inductive AObj where
  | cells (cs : List AVal)
  | tok
  | map (es : List Ent) (clock : Nat)
  | iter (m : Option Nat) (since : Nat) (seen : List Nat) (stepped : Nat)
  | loop (f : FuncId) (env : Trie AVal) (size : Nat) (ps : List Tmp) (a b : Code) (p : Option Ex)
  deriving Inhabited

namespace Trie
variable {α : Type}
/-- what lies at a number (by the recursor itself: the kernel runs it) -/
def get (t : Trie α) : Nat → Option α :=
  @Trie.rec α (fun _ => Nat → Option α) (fun _ => none)
    (fun _ v _ il ir n => @Bool.rec (fun _ => Option α) (@Bool.rec (fun _ => Option α) (ir (n / 2 - 1)) (il (n / 2)) (Nat.beq (n % 2) 1)) v (Nat.beq n 0)) t

/-- one place alone; the first number bounds the depth -/
def one (x : Option α) (f : Nat) : Nat → Trie α :=
  @Nat.rec (fun _ => Nat → Trie α) (fun _ => .node .nil x .nil)
    (fun _ ih n => @Bool.rec (fun _ => Trie α) (@Bool.rec (fun _ => Trie α) (.node .nil none (ih (n / 2 - 1))) (.node (ih (n / 2)) none .nil) (Nat.beq (n % 2) 1)) (.node .nil x .nil) (Nat.beq n 0)) f

def set (t : Trie α) (n : Nat) (x : Option α) : Trie α :=
  @Trie.rec α (fun _ => Nat → Trie α) (fun n => one x n n)
    (fun l v r il ir n => @Bool.rec (fun _ => Trie α) (@Bool.rec (fun _ => Trie α) (.node l v (ir (n / 2 - 1))) (.node (il (n / 2)) v r) (Nat.beq (n % 2) 1)) (.node l x r) (Nat.beq n 0)) t n
/-- all that lies in it -/
def all (p : α → Bool) (t : Trie α) : Bool :=
  @Trie.rec α (fun _ => Bool) true (fun _ v _ il ir => (match v with | none => true | some x => p x) && (il && ir)) t
end Trie

structure St where
  heap : Trie AObj
  next : Nat
  minw : Nat
  ci : Nat
  deriving Inhabited

abbrev Mask := List (Nat × Nat)

def hidden : Mask → Nat → Bool
  | [], _ => false
  | (a, b) :: m, n => (Nat.ble a n && Nat.blt n b) || hidden m n

def St.get (s : St) (mk : Mask) (n : Nat) : Option AObj := bif hidden mk n then none else s.heap.get n
def St.put (s : St) (n : Nat) (o : Option AObj) : St := { heap := s.heap.set n o, next := s.next, minw := bif Nat.ble s.minw n then s.minw else n, ci := s.ci }
def St.new (s : St) (o : AObj) : St := { heap := s.heap.set s.next (some o), next := s.next + 1, minw := s.minw, ci := s.ci }

/-- the boxes of a frame: the temporary that made each, how often it has been made, its cells -/
abbrev Loc := List (Nat × Nat × List AVal)

def Loc.gen : Loc → Nat → Nat
  | [], _ => 0
  | (k, g, _) :: l, n => bif Nat.beq k n then g else Loc.gen l n

def Loc.get : Loc → Nat → Nat → Option (List AVal)
  | [], _, _ => none
  | (k, g, c) :: l, n, h => bif Nat.beq k n then bif Nat.beq g h then some c else none else Loc.get l n h

def Loc.set : Loc → Nat → Nat → List AVal → Loc
  | [], n, h, c => [(n, h, c)]
  | (k, g, d) :: l, n, h, c => bif Nat.beq k n then (k, h, c) :: l else (k, g, d) :: Loc.set l n h c

abbrev Env := Trie AVal

structure Fr where
  env : Env
  size : Nat
  loc : Loc
  deriving Inhabited

def orUndef : Option AVal → AVal
  | some v => v
  | none => undefA

def nth (e : Env) (t : Nat) : AVal := orUndef (e.get t)

def nthL : List AVal → Nat → AVal
  | [], _ => undefA
  | x :: _, 0 => x
  | _ :: l, n + 1 => nthL l n

def ofArgs : Nat → List AVal → Env
  | _, [] => .nil
  | n, v :: l => (ofArgs (n + 1) l).set n (some v)

def ofScal : Value → Option AVal
  | .bool b => some (.bool b)
  | .int k n => some (.int k n)
  | .string s => some (.str s.data.toList)
  | .pointer none => some .nilp
  | .slice none 0 0 => some .nils
  | .map none => some .nilm
  | .nilFunc => some .nilf
  | .nilIface => some .nili
  | _ => none

def ofScals : List Value → Option (List AVal)
  | [] => some []
  | v :: l => (ofScal v).bind fun a => (ofScals l).bind fun r => some (a :: r)

def ofValue : Value → Option AVal
  | .agg cs => (ofScals cs.toList).bind fun l => some (.agg l)
  | v => ofScal v

def ev (env : Env) : Operand → Option AVal
  | .tmp t => some (nth env t)
  | .const v => ofValue v
  | .func f => some (.func (.func f) [] [])
  | .global _ => none

/-- an operand's value, where it may leave the frame -/
def evc (env : Env) (x : Operand) : Option AVal := (ev env x).bind fun v => bif v.clean then some v else none

def evcs (env : Env) : List Operand → Option (List AVal)
  | [] => some []
  | x :: l => (evc env x).bind fun v => (evcs env l).bind fun r => some (v :: r)

section types
variable (P : Program)

def isAggA (t : TypeId) : Option Bool :=
  (P.underlying t).bind fun
    | .struct _ => some true
    | .array _ _ => some true
    | _ => some false

def sizeA (t : TypeId) : Option Nat := (P.info? t).bind fun i => some i.size
def bytesA (t : TypeId) : Option Nat := (P.info? t).bind fun i => some i.bytes
def zeroA (t : TypeId) : Option AVal := (P.info? t).bind fun i => i.zero.bind ofValue

/-- 'n' cells from 'off' on -/
def cut (cs : List AVal) (off n : Nat) : Option (List AVal) :=
  let r := (cs.drop off).take n
  bif Nat.beq r.length n then some r else none

/-- a value of a type out of cells -/
def readCells (t : TypeId) (cs : List AVal) (off : Nat) : Option AVal :=
  (isAggA P t).bind fun b => bif b then (sizeA P t).bind fun n => (cut cs off n).bind fun r => some (.agg r)
    else match cs.drop off with
      | v :: _ => some v
      | [] => none

def writeCells (cs : List AVal) (off : Nat) (new : List AVal) : Option (List AVal) :=
  bif Nat.ble (off + new.length) cs.length then some (cs.take off ++ (new ++ cs.drop (off + new.length))) else none
end types

section ops
variable (P : Program) (mk : Mask) (ch : Nat → Nat) (kmax : Nat → Nat)

def loadA (t : TypeId) (a : AVal) (loc : Loc) (s : St) : Option AVal :=
  match a with
  | .lref l g off => (loc.get l g).bind fun cs => readCells P t cs off
  | .ptr n off => (s.get mk n).bind fun
    | .cells cs => readCells P t cs off
    | _ => none
  | .ro cs => readCells P t cs 0
  | _ => none

def storeA (t : TypeId) (a v : AVal) (loc : Loc) (s : St) : Option (Loc × St) :=
  (sizeA P t).bind fun n => bif Nat.beq v.cells.length n && Nat.blt 0 n then
    match a with
    | .lref l g off => (loc.get l g).bind fun cs => (writeCells cs off v.cells).bind fun cs' => some (loc.set l g cs', s)
    | .ptr m off => (s.get mk m).bind fun
      | .cells cs => (writeCells cs off v.cells).bind fun cs' => some (loc, s.put m (some (.cells cs')))
      | _ => none
    | _ => none
  else none

def fillA (place : Nat → Option (Nat × Nat)) (env : Env) (cells : List AVal) : List (Nat × Operand) → Option (List AVal)
  | [] => some cells
  | (i, x) :: rest => (evc env x).bind fun v => (place i).bind fun (off, size) =>
    bif Nat.beq v.cells.length size then (writeCells cells off v.cells).bind fun c => fillA place env c rest else none

/-- where the fields lie, and how many cells each has -/
def placesA : List Field → Option (List (Nat × Nat))
  | [] => some []
  | f :: fs => (sizeA P f.type).bind fun n => (placesA fs).bind fun r => some ((f.offset, n) :: r)

def buildA (t : TypeId) (parts : List (Nat × Operand)) (env : Env) : Option AVal :=
  (zeroA P t).bind fun z => (P.underlying t).bind fun
    | .struct fields => (placesA P fields.toList).bind fun pl => (fillA (fun i => pl[i]?) env z.cells parts).bind fun c => some (.agg c)
    | .array _ e => (sizeA P e).bind fun n => (fillA (fun i => some (i * n, n)) env z.cells parts).bind fun c => some (.agg c)
    | _ => none

/-- cells as a list of elements -/
def chunk (agg : Bool) (size : Nat) : Nat → List AVal → Option (List AVal)
  | 0, [] => some []
  | 0, _ => none
  | n + 1, cs =>
    bif agg then (cut cs 0 size).bind fun e => (chunk agg size n (cs.drop size)).bind fun r => some (.agg e :: r)
    else match cs with
      | v :: rest => (chunk agg size n rest).bind fun r => some (v :: r)
      | [] => none

def flat : List AVal → List AVal
  | [] => []
  | v :: l => v.cells ++ flat l

def repCells (z : List AVal) : Nat → List AVal
  | 0 => []
  | n + 1 => z ++ repCells z n

/-- an element type: its cells, its bytes, whether it is an aggregate, its zero value -/
structure EI where
  n : Nat
  b : Nat
  g : Bool
  z : AVal
  deriving Inhabited

def elemI (e : TypeId) : Option EI :=
  (sizeA P e).bind fun n => (bytesA P e).bind fun b => (isAggA P e).bind fun g => (zeroA P e).bind fun z =>
    bif Nat.blt 0 n && Nat.beq z.cells.length n && (g || Nat.beq n 1) && Nat.blt 0 b then some ⟨n, b, g, z⟩ else none

/-- the element type of a slice type -/
def sliceElem (t : TypeId) : Option EI :=
  (P.underlying t).bind fun
    | .slice e => elemI P e
    | _ => none

def buildSliceA (t : TypeId) (len : Nat) (parts : List (Nat × Operand)) (mu : Bool) (env : Env) (s : St) : Option (AVal × St) :=
  (sliceElem P t).bind fun E => bif Nat.ble (len * E.n) 16777216 then
      (fillA (fun i => some (i * E.n, E.n)) env (repCells E.z.cells len) parts).bind fun cs =>
        bif mu then some (.arr E.n s.next 0 len len, s.new (.cells cs))
        else (chunk E.g E.n len cs).bind fun xs => some (.list E.n xs .full, s)
    else none

def natOf : AVal → Option Nat
  | .int _ (.ofNat n) => some n
  | _ => none

def natOr (env : Env) (x : Option Operand) (d : Nat) : Option Nat :=
  match x with
  | none => some d
  | some x => (ev env x).bind natOf

/-- where an element of an array or a slice is -/
def indexAddrA (loc : Loc) (t : TypeId) (x i : AVal) : Option AVal :=
  (natOf i).bind fun i => (P.underlying t).bind fun
    | .array len e => (sizeA P e).bind fun n => bif Nat.blt i len then
        match x with
        | .lref l g off => bif Nat.beq (loc.gen l) g then some (.lref l g (off + i * n)) else none
        | .ptr m off => some (.ptr m (off + i * n))
        | .ro cs => some (.ro (cs.drop (i * n)))
        | _ => none
      else none
    | .slice e => (sizeA P e).bind fun n =>
        match x with
        | .list sz xs _ => bif Nat.beq sz n && Nat.blt i xs.length then some (.ro (nthL xs i).cells) else none
        | .arr sz m off len _ => bif Nat.beq sz n && Nat.blt i len then some (.ptr m (off + i * n)) else none
        | _ => none
    | _ => none

def fieldAddrA (loc : Loc) (t : TypeId) (x : AVal) (f : Nat) : Option AVal :=
  (P.underlying t).bind fun
    | .struct fields => (fields[f]?).bind fun fd => (sizeA P fd.type).bind fun n => bif Nat.beq n 0 then none else
        match x with
        | .lref l g off => bif Nat.beq (loc.gen l) g then some (.lref l g (off + fd.offset)) else none
        | .ptr m off => some (.ptr m (off + fd.offset))
        | .ro cs => some (.ro (cs.drop fd.offset))
        | _ => none
    | _ => none

def fieldA (t : TypeId) (x : AVal) (f : Nat) : Option AVal :=
  (P.underlying t).bind fun
    | .struct fields => (fields[f]?).bind fun fd => match x with
        | .agg cs => readCells P fd.type cs fd.offset
        | _ => none
    | _ => none

def indexA (t : TypeId) (x i : AVal) : Option AVal :=
  (natOf i).bind fun i => (P.underlying t).bind fun
    | .array len e => (sizeA P e).bind fun n => bif Nat.blt i len then match x with
        | .agg cs => readCells P e cs (i * n)
        | _ => none
      else none
    | .string => match x with
        | .str s => match s.drop i with
          | b :: _ => some (.int .u8 b.toNat)
          | [] => none
        | _ => none
    | _ => none

def sliceA (t : TypeId) (x : AVal) (low high max : Option Operand) (env : Env) (s : St) : Option AVal :=
  (P.underlying t).bind fun
    | .string => match x, max with
      | .str b, none => (natOr env high b.length).bind fun h => (natOr env low 0).bind fun l =>
          bif Nat.ble l h && Nat.ble h b.length then some (.str ((b.take h).drop l)) else none
      | _, _ => none
    | .slice e => (sizeA P e).bind fun n =>
      match x with
      | .nils => (natOr env high 0).bind fun h => (natOr env low 0).bind fun l => (natOr env max 0).bind fun m =>
          bif Nat.beq h 0 && Nat.beq l 0 && Nat.beq m 0 && (max.isNone || high.isSome) then some .nils else none
      | .list sz xs r => (natOr env high xs.length).bind fun h => (natOr env low 0).bind fun l =>
          bif Nat.beq sz n && Nat.ble l h && Nat.ble h xs.length then
            match max with
            | none => some (.list sz ((xs.take h).drop l) (bif Nat.beq h xs.length && (Nat.blt l h || Nat.beq l 0) then r else .no))
            | some _ => (natOr env max 0).bind fun m => bif Nat.beq m h && high.isSome then some (.list sz ((xs.take h).drop l) .full) else none
          else none
      | .arr sz m off len lcap => (natOr env high len).bind fun h => (natOr env low 0).bind fun l =>
          bif Nat.beq sz n && Nat.ble l h && Nat.ble h len && max.isNone then some (.arr sz m (off + l * n) (h - l) (lcap - l)) else none
      | _ => none
    | .array len e => (sizeA P e).bind fun n =>
      match x with
      | .ptr m off => (natOr env high len).bind fun h => (natOr env low 0).bind fun l => (s.get mk m).bind fun
        | .cells cs => bif Nat.ble l h && Nat.ble h len && max.isNone && Nat.blt 0 (len * n) && Nat.ble (off + len * n) cs.length then some (.arr n m (off + l * n) (h - l) (len - l)) else none
        | _ => none
      | _ => none
    | _ => none

def ilt (a b : Int) : Bool := decide (a < b)
def ile (a b : Int) : Bool := decide (a ≤ b)
def ieq (a b : Int) : Bool := a == b

def leBytes : List UInt8 → List UInt8 → Bool := fun x y => Op.bytesLess x y || x == y

/-- the same cells: bools, numbers, strings -/
def scalSame : AVal → AVal → Bool
  | .bool a, .bool b => a == b
  | .int k a, .int k' b => k == k' && ieq a b
  | .str a, .str b => a == b
  | _, _ => false

def cellsSame : List AVal → List AVal → Bool
  | [], [] => true
  | a :: x, b :: y => scalSame a b && cellsSame x y
  | _, _ => false

/-- the same key, to the bit -/
def keySame : AVal → AVal → Bool
  | .agg a, .agg b => cellsSame a b
  | x, y => scalSame x y

/-- fields, one by one -/
def eqFs (rec : TypeId → AVal → AVal → Option Bool) (xs ys : List AVal) : List Field → Option Bool
  | [] => some true
  | f :: fs => bif f.name == "_" then eqFs rec xs ys fs else
    (readCells P f.type xs f.offset).bind fun a => (readCells P f.type ys f.offset).bind fun b => (rec f.type a b).bind fun r =>
      bif r then eqFs rec xs ys fs else some false

/-- elements of an array from the i-th on -/
def eqEs (rec : TypeId → AVal → AVal → Option Bool) (e : TypeId) (n : Nat) (xs ys : List AVal) : Nat → Nat → Option Bool
  | 0, _ => some true
  | k + 1, i => (readCells P e xs (i * n)).bind fun a => (readCells P e ys (i * n)).bind fun b => (rec e a b).bind fun r =>
      bif r then eqEs rec e n xs ys k (i + 1) else some false

/-- == by a type -/
def eqT : Nat → TypeId → AVal → AVal → Option Bool
  | 0, _, _, _ => none
  | d + 1, t, x, y => (P.underlying t).bind fun D => match D, x, y with
    | .bool, .bool a, .bool b => some (a == b)
    | .int _, .int k a, .int k' b => bif k == k' then some (ieq a b) else none
    | .string, .str a, .str b => some (a == b)
    | .struct fs, .agg xs, .agg ys => bif P.stoodInHeld t then none else eqFs P (eqT d) xs ys fs.toList
    | .array len e, .agg xs, .agg ys => (sizeA P e).bind fun n => eqEs P (eqT d) e n xs ys len 0
    | .slice _, .nils, .nils => some true
    | .slice _, .nils, .list _ _ _ => some false
    | .slice _, .list _ _ _, .nils => some false
    | .slice _, .nils, .arr _ _ _ _ _ => some false
    | .slice _, .arr _ _ _ _ _, .nils => some false
    | .map _ _, .nilm, .nilm => some true
    | .map _ _, .nilm, .map _ => some false
    | .map _ _, .map _, .nilm => some false
    | .func _ _ _, .nilf, .nilf => some true
    | .func _ _ _, .nilf, .func _ _ _ => some false
    | .func _ _ _, .func _ _ _, .nilf => some false
    | .pointer _, .nilp, .nilp => some true
    | .pointer _, .nilp, .ptr _ _ => some false
    | .pointer _, .ptr _ _, .nilp => some false
    | _, _, _ => none

def eqA (t : TypeId) (x y : AVal) : Option Bool :=
  match x, y with
  | .agg _, .agg _ => bif P.eqGuardType P.depth t then none else eqT P 8 t x y
  | _, _ => eqT P 8 t x y

/-- a key that can be hashed -/
def keyFs (rec : TypeId → AVal → Bool) (xs : List AVal) : List Field → Bool
  | [] => true
  | f :: fs => bif f.name == "_" then keyFs rec xs fs else
    match readCells P f.type xs f.offset with
    | some a => rec f.type a && keyFs rec xs fs
    | none => false

def keyEs (rec : TypeId → AVal → Bool) (e : TypeId) (n : Nat) (xs : List AVal) : Nat → Nat → Bool
  | 0, _ => true
  | k + 1, i => match readCells P e xs (i * n) with
    | some a => rec e a && keyEs rec e n xs k (i + 1)
    | none => false

def keyOk : Nat → TypeId → AVal → Bool
  | 0, _, _ => false
  | d + 1, t, x => match P.underlying t, x with
    | some .bool, .bool _ => true
    | some (.int _), .int _ _ => true
    | some .string, .str _ => true
    | some (.struct fs), .agg xs => keyFs P (keyOk d) xs fs.toList
    | some (.array len e), .agg xs => match sizeA P e with
      | some n => keyEs P (keyOk d) e n xs len 0
      | none => false
    | _, _ => false

def intOp (op : BinOp) (k : IntKind) (a b : Int) : Option AVal :=
  match op with
  | .add => some (.int k (k.wrap (a + b)))
  | .sub => some (.int k (k.wrap (a - b)))
  | .mul => some (.int k (k.wrap (a * b)))
  | .quo => bif ieq b 0 then none else some (.int k (k.wrap (a.tdiv b)))
  | .rem => bif ieq b 0 then none else some (.int k (a.tmod b))
  | .and => some (.int k (k.wrap ((BitVec.ofInt k.bits a) &&& (BitVec.ofInt k.bits b)).toNat))
  | .or => some (.int k (k.wrap ((BitVec.ofInt k.bits a) ||| (BitVec.ofInt k.bits b)).toNat))
  | .xor => some (.int k (k.wrap ((BitVec.ofInt k.bits a) ^^^ (BitVec.ofInt k.bits b)).toNat))
  | .andNot => some (.int k (k.wrap ((BitVec.ofInt k.bits a) &&& ~~~(BitVec.ofInt k.bits b)).toNat))
  | .eql => some (.bool (ieq a b))
  | .neq => some (.bool (!ieq a b))
  | .lss => some (.bool (ilt a b))
  | .leq => some (.bool (ile a b))
  | .gtr => some (.bool (ilt b a))
  | .geq => some (.bool (ile b a))
  | _ => none

def strOp (op : BinOp) (a b : List UInt8) : Option AVal :=
  match op with
  | .add => bif Nat.ble (a.length + b.length) 1073741824 then some (.str (a ++ b)) else none
  | .eql => some (.bool (a == b))
  | .neq => some (.bool (!(a == b)))
  | .lss => some (.bool (Op.bytesLess a b))
  | .leq => some (.bool (leBytes a b))
  | .gtr => some (.bool (!leBytes a b))
  | .geq => some (.bool (!Op.bytesLess a b))
  | _ => none

def binA (op : BinOp) (t : TypeId) (x y : AVal) : Option AVal :=
  match x, y with
  | .int k a, .int k' b => match op with
    | .shl => bif ilt b 0 then none else some (.int k (k.wrap (a * 2 ^ (min b.toNat k.bits))))
    | .shr => bif ilt b 0 then none else some (.int k (a.fdiv (2 ^ (min b.toNat k.bits))))
    | _ => bif k == k' then intOp op k a b else none
  | .str a, .str b => strOp op a b
  | x, y => match op with
    | .eql => (eqA P t x y).bind fun b => some (.bool b)
    | .neq => (eqA P t x y).bind fun b => some (.bool (!b))
    | _ => none

def unA (op : UnOp) (x : AVal) : Option AVal :=
  match op, x with
  | .neg, .int k n => some (.int k (k.wrap (0 - n)))
  | .not, .bool b => some (.bool !b)
  | _, _ => none

def convA (src dst : TypeId) (x : AVal) : Option AVal :=
  (P.underlying src).bind fun _ => (P.underlying dst).bind fun d => match d, x with
    | .int k, .int _ n => some (.int k (k.wrap n))
    | .string, .str s => some (.str s)
    | _, _ => none

/- maps -/
def findKeyA (kt : TypeId) (k : AVal) : List Ent → Nat → Option (Option (Nat × Ent))
  | [], _ => some none
  | e :: es, i => (eqT P 8 kt k e.key).bind fun b => bif b then some (some (i, e)) else findKeyA kt k es (i + 1)

def keyType (t : TypeId) (k : AVal) : Option (TypeId × TypeId) :=
  (P.underlying t).bind fun
    | .map kt e => bif keyOk P 8 kt k then some (kt, e) else none
    | _ => none

def lookupIn (kt : TypeId) (m k : AVal) (s : St) : Option (Option (Nat × Ent)) :=
  match m with
  | .nilm => some none
  | .map n => (s.get mk n).bind fun
    | .map es _ => findKeyA P kt k es 0
    | _ => none
  | _ => none

def lookupA (t : TypeId) (m k : AVal) (ok : Bool) (s : St) : Option AVal :=
  (keyType P t k).bind fun ke => (zeroA P ke.2).bind fun z => (lookupIn P mk ke.1 m k s).bind fun
    | some x => some (bif ok then .tup [x.2.val, .bool true] else x.2.val)
    | none => some (bif ok then .tup [z, .bool false] else z)

def updateA (t : TypeId) (m k v : AVal) (s : St) : Option St :=
  (keyType P t k).bind fun ke => match m with
    | .map n => (s.get mk n).bind fun
      | .map es clock => (findKeyA P ke.1 k es 0).bind fun
        | some x => bif keySame x.2.key k then some (s.put n (some (.map (es.set x.1 ⟨k, v, x.2.born⟩) clock))) else none
        | none => some (s.put n (some (.map (es ++ [⟨k, v, clock⟩]) (clock + 1))))
      | _ => none
    | _ => none

def mapEntryA (t : TypeId) (m k : AVal) (s : St) : Option (AVal × St) :=
  (keyType P t k).bind fun ke => (zeroA P ke.2).bind fun z => match m with
    | .map n => (s.get mk n).bind fun
      | .map es clock => (findKeyA P ke.1 k es 0).bind fun
        | some x => bif keySame x.2.key k then some (.tup [x.2.val, .int .i64 x.2.born], s.put n (some (.map (es.set x.1 ⟨k, x.2.val, x.2.born⟩) clock))) else none
        | none => some (.tup [z, .int .i64 clock], s.put n (some (.map (es ++ [⟨k, z, clock⟩]) (clock + 1))))
      | _ => none
    | _ => none

def setBorn (b : Nat) (v : AVal) : List Ent → Option (List Ent)
  | [] => none
  | e :: es => bif Nat.beq e.born b then some (⟨e.key, v, e.born⟩ :: es) else (setBorn b v es).bind fun r => some (e :: r)

def entryStoreA (m stamp v : AVal) (s : St) : Option St :=
  (natOf stamp).bind fun b => match m with
    | .map n => (s.get mk n).bind fun
      | .map es clock => (setBorn b v es).bind fun es' => some (s.put n (some (.map es' clock)))
      | _ => none
    | _ => none

def rangeA (t : TypeId) (x : AVal) (s : St) : Option (AVal × St) :=
  (P.underlying t).bind fun
    | .map _ _ => match x with
      | .nilm => some (.ptr s.next 0, s.new (.iter none 0 [] 0))
      | .map m => (s.get mk m).bind fun
        | .map _ clock => some (.ptr s.next 0, s.new (.iter (some m) clock [] clock))
        | _ => none
      | _ => none
    | _ => none

/-- what a range has not met yet -/
def unseen (seen : List Nat) (es : List Ent) : List Ent := es.filter (fun e => !seen.any (Nat.beq e.born))

/-- the step of a range to an entry -/
def stepTo (n m since clock : Nat) (seen : List Nat) (e : Ent) (s : St) : AVal × St :=
  (.tup [.bool true, e.key, e.val], s.put n (some (.iter (some m) since (seen ++ [e.born]) clock)))

def nextIn (n m since : Nat) (seen : List Nat) (clock : Nat) (l : List Ent) (s : St) : Option (AVal × St) :=
  match l with
  | [] => some (.tup [.bool false], s)
  | e :: r => bif (e :: r).all (fun e => Nat.blt e.born since) then
      match r with
      | [] => some (stepTo n m since clock seen e s)
      | _ :: _ => bif Nat.ble (e :: r).length (kmax s.ci) then
          ((e :: r)[ch s.ci % (e :: r).length]?).bind fun e => some ((stepTo n m since clock seen e s).1, { (stepTo n m since clock seen e s).2 with ci := s.ci + 1 })
        else none
    else none

def nextA (it : AVal) (isString : Bool) (s : St) : Option (AVal × St) :=
  match it with
  | .ptr n 0 => (s.get mk n).bind fun
    | .iter none _ _ _ => bif isString then none else some (.tup [.bool false], s)
    | .iter (some m) since seen stepped => bif isString then none else (s.get mk m).bind fun
      | .map es clock => bif !seen.isEmpty && !es.isEmpty && es.all (fun e => Nat.ble stepped e.born) then none
        else nextIn ch kmax n m since seen clock (unseen seen es) s
      | _ => none
    | _ => none
  | _ => none

def findBorn (b : Nat) : List Ent → Option Ent
  | [] => none
  | e :: es => bif Nat.beq e.born b then some e else findBorn b es

def entryA (it : AVal) (s : St) : Option AVal :=
  match it with
  | .ptr n 0 => (s.get mk n).bind fun
    | .iter (some m) _ seen stepped => (s.get mk m).bind fun
      | .map es clock => bif Nat.beq clock stepped then
          (seen.getLast?).bind fun b => (findBorn b es).bind fun e => some (.tup [e.key, e.val])
        else none
      | _ => none
    | _ => none
  | _ => none

def makeSliceA (t : TypeId) (l c : AVal) (mu : Bool) (s : St) : Option (AVal × St) :=
  (sliceElem P t).bind fun E => (natOf l).bind fun l => (natOf c).bind fun c =>
    bif Nat.ble l c && Nat.ble (c * E.b) 1099511627776 && Nat.ble c 1099511627776 then
      bif Nat.beq l 0 && !mu then some (.list E.n [] (.own s.next), s.new .tok)
      else some (.arr E.n s.next 0 l l, s.new (.cells (repCells E.z.cells l)))
    else none

/-- the elements of a slice -/
def elemsA (agg : Bool) (n : Nat) (x : AVal) (s : St) : Option (List AVal) :=
  match x with
  | .nils => some []
  | .list sz xs _ => bif Nat.beq sz n then some xs else none
  | .arr sz m off len _ => bif Nat.beq sz n then (s.get mk m).bind fun
    | .cells cs => (cut cs off (len * n)).bind fun c => chunk agg n len c
    | _ => none
    else none
  | _ => none

def roomy (need bytes : Nat) : Bool := Nat.ble ((need * 2 + 1024) * bytes) 140737488355328

/-- a new row behind an append -/
def madeA (E : EI) (mu : Bool) (xs : List AVal) (s : St) : Option (AVal × St) :=
  bif roomy xs.length E.b then
    bif mu then some (.arr E.n s.next 0 xs.length xs.length, s.new (.cells (flat xs)))
    else some (.list E.n xs (.own s.next), s.new .tok)
  else none

def appendTo (E : EI) (x : AVal) (ys : List AVal) (mu : Bool) (s : St) : Option (AVal × St) :=
  match x with
  | .nils => madeA E mu ys s
  | .list sz xs .full => bif Nat.beq sz E.n then madeA E mu (xs ++ ys) s else none
  | .list sz xs (.own k) => (s.get mk k).bind fun
    | .tok => bif roomy (xs.length + ys.length) E.b && Nat.beq sz E.n then some (.list E.n (xs ++ ys) (.own s.next), (s.put k none).new .tok) else none
    | _ => none
  | .arr sz m off len lcap => (s.get mk m).bind fun
    | .cells cs => bif roomy (len + ys.length) E.b && Nat.beq sz E.n then
        bif Nat.beq (off + len * E.n) cs.length then
          some (.arr E.n s.next 0 (len + ys.length) (len + ys.length), (s.put m none).new (.cells (cs.drop off ++ flat ys)))
        else bif Nat.ble (len + ys.length) lcap then
          (writeCells cs (off + len * E.n) (flat ys)).bind fun cs' => some (.arr E.n m off (len + ys.length) lcap, s.put m (some (.cells cs')))
        else none
      else none
    | _ => none
  | _ => none

def isSlice : AVal → Bool
  | .nils => true
  | .list _ _ _ => true
  | .arr _ _ _ _ _ => true
  | _ => false

def appendA (t : TypeId) (x y : AVal) (mu : Bool) (s : St) : Option (AVal × St) :=
  (sliceElem P t).bind fun E => (elemsA mk E.g E.n y s).bind fun ys =>
    match ys with
    | [] => bif isSlice x then some (x, s) else none
    | _ :: _ => appendTo mk E x ys mu s

def copyA (t : TypeId) (x y : AVal) (s : St) : Option (AVal × St) :=
  (sliceElem P t).bind fun E => (elemsA mk E.g E.n y s).bind fun ys =>
    match x with
    | .nils => some (.int .i64 0, s)
    | .list _ [] _ => some (.int .i64 0, s)
    | .arr sz m off len _ => bif Nat.beq sz E.n then (s.get mk m).bind fun
      | .cells cs => (writeCells cs off (flat (ys.take len))).bind fun cs' => some (.int .i64 (ys.take len).length, s.put m (some (.cells cs')))
      | _ => none
      else none
    | _ => none

def lenA (t : TypeId) (x : AVal) (s : St) : Option AVal :=
  (P.underlying t).bind fun d => match d, x with
    | .string, .str b => some (.int .i64 b.length)
    | .array n _, _ => some (.int .i64 n)
    | .slice _, .nils => some (.int .i64 0)
    | .slice _, .list _ xs _ => some (.int .i64 xs.length)
    | .slice _, .arr _ _ _ len _ => some (.int .i64 len)
    | .map _ _, .nilm => some (.int .i64 0)
    | .map _ _, .map n => (s.get mk n).bind fun
      | .map es _ => some (.int .i64 es.length)
      | _ => none
    | _, _ => none

def clearA (t : TypeId) (x : AVal) (s : St) : Option St :=
  match x with
  | .nilm => some s
  | .nils => some s
  | .map n => (s.get mk n).bind fun
    | .map _ clock => some (s.put n (some (.map [] clock)))
    | _ => none
  | .list _ [] _ => some s
  | .arr sz m off len _ => bif Nat.beq len 0 then some s else (sliceElem P t).bind fun E =>
    bif Nat.beq sz E.n then (s.get mk m).bind fun
      | .cells cs => (writeCells cs off (repCells E.z.cells len)).bind fun cs' => some (s.put m (some (.cells cs')))
      | _ => none
    else none
  | _ => none

def minmaxA (isMax : Bool) : AVal → List AVal → Option AVal
  | .int k a, [] => some (.int k a)
  | .int k a, .int k' b :: l => bif k == k' then minmaxA isMax (.int k (bif isMax then bif ilt a b then b else a else bif ilt b a then b else a)) l else none
  | .str a, [] => some (.str a)
  | .str a, .str b :: l => minmaxA isMax (.str (bif isMax then bif Op.bytesLess a b then b else a else bif leBytes a b then a else b)) l
  | _, _ => none

def isSliceT (t : TypeId) : Bool :=
  match P.underlying t with
  | some (.slice _) => true
  | _ => false

def builtinA (b : Builtin) (argTypes : List TypeId) (mu : Bool) (args : List AVal) (s : St) : Option (AVal × St) :=
  match b, argTypes, args with
  | .len, [t], [x] => (lenA P mk t x s).bind fun v => some (v, s)
  | .append, [t, t2], [x, y] => bif isSliceT P t2 then appendA P mk t x y mu s else none
  | .copy, [t, _], [x, y] => copyA P mk t x y s
  | .clear, [t], [x] => (P.underlying t).bind fun _ => (clearA P mk t x s).bind fun s' => some (.tup [], s')
  | .min, _, x :: l => (minmaxA false x l).bind fun v => some (v, s)
  | .max, _, x :: l => (minmaxA true x l).bind fun v => some (v, s)
  | _, _, _ => none

def boxA (h : Nat) (dst : Option Tmp) (cs : List AVal) (loc : Loc) (s : St) : Option (AVal × Loc × St) :=
  bif Nat.beq h 1 then dst.bind fun t => some (.lref t (loc.gen t + 1) 0, loc.set t (loc.gen t + 1) cs, s)
  else some (.ptr s.next 0, loc, s.new (.cells cs))

def retV (x : Option AVal) (l : Loc) (s : St) : Option (AVal × Loc × St) := x.bind fun a => some (a, l, s)
def retVS (x : Option (AVal × St)) (l : Loc) : Option (AVal × Loc × St) := x.bind fun r => some (r.1, l, r.2)
def retS (x : Option St) (l : Loc) : Option (AVal × Loc × St) := x.bind fun s => some (undefA, l, s)

def hintOf (hint : Tmp → Nat) : Option Tmp → Nat
  | some t => hint t
  | none => 0

def pickA (env : Env) (c a b : Operand) : Option AVal :=
  (ev env c).bind fun
    | .bool true => ev env a
    | .bool false => ev env b
    | _ => none

def nilCheckA (loc : Loc) : AVal → Option AVal
  | .lref a g b => bif Nat.beq (loc.gen a) g then some (.lref a g b) else none
  | .ptr a b => some (.ptr a b)
  | .ro c => some (.ro c)
  | .func (.func f) a b => some (.func (.func f) a b)
  | _ => none

def extractA (i : Nat) : AVal → Option AVal
  | .tup l => l[i]?
  | _ => none

def makeFuncA (env : Env) (fn : Fn) (first captured : Array Operand) : Option AVal :=
  match fn with
  | .func f => (evcs env first.toList).bind fun a => (evcs env captured.toList).bind fun b => some (.func (.func f) a b)
  | _ => none

def makeMapA (t : TypeId) (env : Env) (r : Option Operand) (s : St) : Option (AVal × St) :=
  match r with
  | none => some (.map s.next, s.new (.map [] 0))
  | some x => (P.underlying t).bind fun
    | .map _ _ => (ev env x).bind fun
      | .int _ _ => some (.map s.next, s.new (.map [] 0))
      | _ => none
    | _ => none

def opAlloc (hint : Tmp → Nat) (dst : Option Tmp) (e : TypeId) (fr : Fr) (s : St) : Option (AVal × Loc × St) :=
  (zeroA P e).bind fun z => boxA (hintOf hint dst) dst z.cells fr.loc s
def opBox (hint : Tmp → Nat) (dst : Option Tmp) (x : Operand) (fr : Fr) (s : St) : Option (AVal × Loc × St) :=
  (evc fr.env x).bind fun a => boxA (hintOf hint dst) dst a.cells fr.loc s
def opLoad (t : TypeId) (a : Operand) (fr : Fr) (s : St) : Option (AVal × Loc × St) :=
  (ev fr.env a).bind fun a => retV (loadA P mk t a fr.loc s) fr.loc s
def opStore (t : TypeId) (a x : Operand) (fr : Fr) (s : St) : Option (AVal × Loc × St) :=
  (ev fr.env a).bind fun a => (evc fr.env x).bind fun x => (storeA P mk t a x fr.loc s).bind fun r => some (undefA, r.1, r.2)
def opBin (op : BinOp) (t : TypeId) (x y : Operand) (fr : Fr) (s : St) : Option (AVal × Loc × St) :=
  (evc fr.env x).bind fun x => (evc fr.env y).bind fun y => retV (binA P op t x y) fr.loc s
def opUpdate (t : TypeId) (m k x : Operand) (fr : Fr) (s : St) : Option (AVal × Loc × St) :=
  (evc fr.env m).bind fun m => (evc fr.env k).bind fun k => (evc fr.env x).bind fun x => retS (updateA P mk t m k x s) fr.loc
def opLookup (t : TypeId) (x i : Operand) (ok : Bool) (fr : Fr) (s : St) : Option (AVal × Loc × St) :=
  (evc fr.env x).bind fun x => (evc fr.env i).bind fun i => retV (lookupA P mk t x i ok s) fr.loc s
def opMakeSlice (hint : Tmp → Nat) (dst : Option Tmp) (t : TypeId) (l c : Operand) (fr : Fr) (s : St) : Option (AVal × Loc × St) :=
  (ev fr.env l).bind fun l => (ev fr.env c).bind fun c => retVS (makeSliceA P t l c (Nat.beq (hintOf hint dst) 2) s) fr.loc
def opIndexAddr (t : TypeId) (x i : Operand) (fr : Fr) (s : St) : Option (AVal × Loc × St) :=
  (ev fr.env x).bind fun x => (ev fr.env i).bind fun i => retV (indexAddrA P fr.loc t x i) fr.loc s
def opIndex (t : TypeId) (x i : Operand) (fr : Fr) (s : St) : Option (AVal × Loc × St) :=
  (evc fr.env x).bind fun x => (ev fr.env i).bind fun i => retV (indexA P t x i) fr.loc s
def opMapEntry (t : TypeId) (m k : Operand) (fr : Fr) (s : St) : Option (AVal × Loc × St) :=
  (evc fr.env m).bind fun m => (evc fr.env k).bind fun k => retVS (mapEntryA P mk t m k s) fr.loc
def opEntryStore (m st x : Operand) (fr : Fr) (s : St) : Option (AVal × Loc × St) :=
  (evc fr.env m).bind fun m => (evc fr.env st).bind fun st => (evc fr.env x).bind fun x => retS (entryStoreA mk m st x s) fr.loc
def opBuiltin (hint : Tmp → Nat) (dst : Option Tmp) (c : Call) (fr : Fr) (s : St) : Option (AVal × Loc × St) :=
  match c.callee with
  | .builtin b => (evcs fr.env c.args.toList).bind fun args => retVS (builtinA P mk b c.argTypes.toList (Nat.beq (hintOf hint dst) 2) args s) fr.loc
  | _ => none
def op1 (x : Operand) (g : AVal → Option AVal) (fr : Fr) (s : St) : Option (AVal × Loc × St) :=
  (ev fr.env x).bind fun a => retV (g a) fr.loc s
def op1c (x : Operand) (g : AVal → Option AVal) (fr : Fr) (s : St) : Option (AVal × Loc × St) :=
  (evc fr.env x).bind fun a => retV (g a) fr.loc s

/-- one operation that is no call of a Go function: its value, the frame's boxes, the state -/
def aop (hint : Tmp → Nat) (dst : Option Tmp) (op : Op) (fr : Fr) (s : St) : Option (AVal × Loc × St) :=
  match op with
  | .move x => retV (ev fr.env x) fr.loc s
  | .assign x => retV (ev fr.env x) fr.loc s
  | .pick c a b => retV (pickA fr.env c a b) fr.loc s
  | .alloc e => opAlloc P hint dst e fr s
  | .box _ x => opBox hint dst x fr s
  | .build t parts => retV (buildA P t parts.toList fr.env) fr.loc s
  | .buildSlice t len parts => retVS (buildSliceA P t len parts.toList (Nat.beq (hintOf hint dst) 2) fr.env s) fr.loc
  | .load t a => opLoad P mk t a fr s
  | .store t a x => opStore P mk t a x fr s
  | .nilCheck x => op1 x (nilCheckA fr.loc) fr s
  | .binOp op t x y _ => opBin P op t x y fr s
  | .unOp op _ x => op1c x (unA op) fr s
  | .convert src dst x => op1c x (convA P src dst) fr s
  | .makeFunc fn first captured => retV (makeFuncA fr.env fn first captured) fr.loc s
  | .makeMap t r => retVS (makeMapA P t fr.env r s) fr.loc
  | .makeSlice t l c => opMakeSlice P hint dst t l c fr s
  | .slice t x lo hi mx => op1c x (fun x => sliceA P mk t x lo hi mx fr.env s) fr s
  | .fieldAddr t x f => op1 x (fun x => fieldAddrA P fr.loc t x f) fr s
  | .field t x f => op1c x (fun x => fieldA P t x f) fr s
  | .indexAddr t x i => opIndexAddr P t x i fr s
  | .index t x i => opIndex P t x i fr s
  | .lookup t x i ok => opLookup P mk t x i ok fr s
  | .mapUpdate t m k x => opUpdate P mk t m k x fr s
  | .insert t m k x => opUpdate P mk t m k x fr s
  | .mapEntry t m k => opMapEntry P mk t m k fr s
  | .entryStore _ m st x => opEntryStore mk m st x fr s
  | .range t x => (evc fr.env x).bind fun x => retVS (rangeA P mk t x s) fr.loc
  | .next it isString => (evc fr.env it).bind fun it => retVS (nextA mk ch kmax it isString s) fr.loc
  | .entry it => op1c it (fun it => entryA mk it s) fr s
  | .extract x i => op1 x (extractA i) fr s
  | .call c => opBuiltin P mk hint dst c fr s
  | _ => none
end ops

/-- the function that a call enters, with its arguments -/
def callee (env : Env) (c : Call) : Option (FuncId × List AVal) :=
  match c.callee with
  | .value f => (ev env f).bind fun
    | .func (.func f) first captured => (evcs env c.args.toList).bind fun args => some (f, first ++ (args ++ captured))
    | _ => none
  | _ => none

/-- what of memory an operation may look at or change: all of the heap, one object, a box of the frame, nothing that was there -/
inductive Foot where
  | all
  | obj (n : Nat)
  | loc (t : Nat)
  | none
  deriving Inhabited

def footAddr (env : Env) (a : Operand) : Foot :=
  match ev env a with
  | some (.lref t _ _) => .loc t
  | some (.ptr n _) => .obj n
  | some (.ro _) => .none
  | _ => .all

/-- an address into a frame's box, or any other value -/
def footRef (env : Env) (a : Operand) : Foot :=
  match ev env a with
  | some (.lref t _ _) => .loc t
  | _ => .none

def footBox (hint : Tmp → Nat) (dst : Option Tmp) : Foot :=
  match dst with
  | some t => bif Nat.beq (hint t) 1 then .loc t else .none
  | none => .none

def footOf (hint : Tmp → Nat) (dst : Option Tmp) (env : Env) : Op → Foot
  | .load _ a => footAddr env a
  | .store _ a _ => footAddr env a
  | .fieldAddr _ x _ => footRef env x
  | .indexAddr _ x _ => footRef env x
  | .nilCheck x => footRef env x
  | .move _ | .assign _ | .pick .. | .build .. | .field .. | .index .. | .binOp .. | .unOp .. | .convert .. | .makeFunc .. | .extract .. => .none
  | .slice _ x _ _ _ => match ev env x with
    | some (.ptr n _) => .obj n
    | _ => .none
  | .alloc _ => footBox hint dst
  | .box _ _ => footBox hint dst
  | .buildSlice .. | .makeMap .. | .makeSlice .. => .none
  | .call { callee := .builtin .min, .. } => .none
  | .call { callee := .builtin .max, .. } => .none
  | .call { callee := .builtin .len, args, .. } => match args[0]? with
    | some x => match ev env x with
      | some (.map _) => .all
      | _ => .none
    | none => .none
  | _ => .all

/-- it may change a box of the frame -/
def isStore : Op → Bool
  | .store .. => true
  | .alloc _ => true
  | .box _ _ => true
  | _ => false

def Foot.meets : Foot → Foot → Bool
  | .none, _ => false
  | _, .none => false
  | .all, .all => true
  | .all, .obj _ => true
  | .obj _, .all => true
  | .obj n, .obj m => Nat.beq n m
  | .loc t, .loc u => Nat.beq t u
  | _, _ => false

structure Rec where
  i : Nat
  c0 : Nat
  c1 : Nat
  foot : Foot
  loud : Bool
  deriving Inhabited

/-- what a contract reads of the heap, one object after the other -/
inductive Rd where
  | ret (v : Option AVal)
  | ask (n : Nat) (k : AObj → Rd)

def runRd (g : Nat → Option AObj) : Rd → Option AVal
  | .ret v => v
  | .ask n k => (g n).bind fun o => runRd g (k o)

structure Prog where
  P : Program
  hint : FuncId → Tmp → Nat
  spec : FuncId → Option (List AVal → Option AVal)
  ch : Nat → Nat
  kmax : Nat → Nat
  specH : FuncId → Option (List AVal → Rd) := fun _ => none

def wantedA (ops : Array Oper) (env : Env) (o : Oper) : Bool :=
  match o.guard with
  | none => true
  | some (j, want) => match (ops[j]?).bind (·.dst) with
    | some d => match nth env d with
      | .bool b => b == want
      | _ => false
    | none => false

/-- the frame behind an operation -/
def putDst (fr : Fr) (dst : Option Tmp) (v : AVal) (loc : Loc) : Option Fr :=
  match dst with
  | some d => bif Nat.blt d fr.size then some ⟨fr.env.set d (some v), fr.size, loc⟩ else none
  | none => some ⟨fr.env, fr.size, loc⟩

def tmpOf : Operand → Option Nat
  | .tmp t => some t
  | _ => none

/-- the temporaries that an operation looks at -/
def looks (ops : Array Oper) (o : Oper) : List Nat :=
  o.op.operands.toList.filterMap tmpOf ++ (match o.guard with
    | some (g, _) => match (ops[g]?).bind (·.dst) with | some d => [d] | none => []
    | none => [])

/-- operations of a region that need not come one behind the other use different temporaries -/
def dstOk (ops : Array Oper) (x y : Oper) : Bool :=
  (match x.dst with
   | some d => !(looks ops y).any (Nat.beq d) && (match y.dst with | some e => !Nat.beq d e | none => true)
   | none => true) &&
  (match y.dst with
   | some d => !(looks ops x).any (Nat.beq d)
   | none => true)

def apartIn (ops : Array Oper) (x : Oper) (i : Nat) : List Oper → List Nat → Bool
  | [], _ => true
  | y :: l, bs => ((bs.headD 0).testBit i || dstOk ops x y) && apartIn ops x i l bs.tail

def apartAll (ops : Array Oper) : Nat → List Oper → List Nat → Bool
  | _, [], _ => true
  | i, x :: l, bs => x.after.toList.all (fun e => !Region.binds .any e || Nat.blt e.on i) && (apartIn ops x i l bs.tail && apartAll ops (i + 1) l bs.tail)

def maskOf (bi : Nat) (rs : List Rec) (mk : Mask) : Mask :=
  match rs with
  | [] => mk
  | r :: rs => bif bi.testBit r.i || Nat.beq r.c0 r.c1 then maskOf bi rs mk else (r.c0, r.c1) :: maskOf bi rs mk

/-- an operation beside those ahead of it that it need not come behind -/
def fits (bi : Nat) (foot : Foot) (loud : Bool) (rs : List Rec) : Bool :=
  rs.all fun r => bi.testBit r.i || !((loud || r.loud) && foot.meets r.foot)

section run
variable (Q : Prog)

/-- read the results of a function -/
def resultA (mk : Mask) (fr : Fr) (s : St) : ResultVar → Option AVal
  | .tmp t => evc fr.env (.tmp t)
  | .cell a t => loadA Q.P mk t (nth fr.env a) fr.loc s

def resultsA (mk : Mask) (fr : Fr) (s : St) : List ResultVar → Option (List AVal)
  | [] => some []
  | r :: l => (resultA Q mk fr s r).bind fun v => (resultsA mk fr s l).bind fun vs => bif v.clean then some (v :: vs) else none

def packA : List AVal → AVal
  | [v] => v
  | vs => .tup vs

/-- the functions of one level: what they call themselves is of the level below -/
structure Fns where
  ops : FuncId → Array Oper → Mask → List Oper → Fr → St → Option (Fr × St)
  draw : FuncId → Array Oper → List Nat → Mask → List Rec → Nat → List Oper → Fr → St → Option (Fr × St)
  code : FuncId → Code → Mask → Fr → St → Option (Ex × Fr × St)
  call : FuncId → List AVal → Mask → St → Option (AVal × St)

def Fns.none : Fns := ⟨fun _ _ _ _ _ _ => .none, fun _ _ _ _ _ _ _ _ _ => .none, fun _ _ _ _ _ => .none, fun _ _ _ _ => .none⟩

variable (r : Fns)

def callOp (c : Call) (mk : Mask) (fr : Fr) (s : St) : Option (AVal × Loc × St) :=
  (callee fr.env c).bind fun g => (r.call g.1 g.2 mk s).bind fun v => some (v.1, fr.loc, v.2)

/-- the frame of a round: the temporaries as the loop was entered, and what it is handed -/
def setPs : List Tmp → List AVal → Env → Option Env
  | [], [], e => some e
  | t :: ts, v :: vs, e => setPs ts vs (e.set t (some v))
  | _, _, _ => none

/-- the end of a round -/
def yield2 (f : FuncId) (env : Env) (size : Nat) (ps : List Tmp) (a b : Code) : Ex × Fr × St → Option (AVal × AObj × St)
  | (.normal, _, s) => some (.bool true, .loop f env size ps a b none, s)
  | (x, _, s) => some (.bool false, .loop f env size ps a b (some x), s)

def yield1 (f : FuncId) (env : Env) (size : Nat) (ps : List Tmp) (a b : Code) (mk : Mask) : Ex × Fr × St → Option (AVal × AObj × St)
  | (.normal, fr, s) => (r.code f b mk fr s).bind (yield2 f env size ps a b)
  | _ => none

/-- a round of a range over a function, its record out of sight -/
def yieldIn (o : AObj) (args : List AVal) (mk : Mask) (s : St) : Option (AVal × AObj × St) :=
  match o with
  | .loop f env size ps a b none => bif ps.all (fun t => Nat.blt t size) then
      (setPs ps args env).bind fun env' => (r.code f a mk ⟨env', size, []⟩ s).bind (yield1 r f env size ps a b mk)
    else none
  | _ => none

def yieldS (n : Nat) (args : List AVal) (mk : Mask) (s : St) : Option (AVal × St) :=
  (s.get mk n).bind fun o => (yieldIn r o args mk (s.put n none)).bind fun x => some (x.1, x.2.2.put n (some x.2.1))

def yieldee (env : Env) (c : Call) : Option (Nat × List AVal) :=
  match c.callee with
  | .value f => (ev env f).bind fun
    | .yld n => (evcs env c.args.toList).bind fun args => some (n, args)
    | _ => none
  | _ => none

def yieldOp (c : Call) (mk : Mask) (fr : Fr) (s : St) : Option (AVal × Loc × St) :=
  (yieldee fr.env c).bind fun g => (yieldS r g.1 g.2 mk s).bind fun v => some (v.1, fr.loc, v.2)

def isYld (env : Env) (c : Call) : Bool :=
  match c.callee with
  | .value f => match ev env f with
    | some (.yld _) => true
    | _ => false
  | _ => false

/-- one operation -/
def operS (f : FuncId) (o : Oper) (mk : Mask) (fr : Fr) (s : St) : Option (AVal × Loc × St) :=
  match o.op with
  | .call c => match c.callee with
    | .builtin _ => opBuiltin Q.P mk (Q.hint f) o.dst c fr s
    | _ => bif isYld fr.env c then yieldOp r c mk fr s else callOp r c mk fr s
  | op => aop Q.P mk Q.ch Q.kmax (Q.hint f) o.dst op fr s

/-- operations in the order of the text -/
def opsS (f : FuncId) (all : Array Oper) (mk : Mask) (l : List Oper) (fr : Fr) (s : St) : Option (Fr × St) :=
  match l with
  | [] => some (fr, s)
  | o :: rest =>
    bif wantedA all fr.env o then
      (operS Q r f o mk fr s).bind fun x => (putDst fr o.dst x.1 x.2.1).bind fun fr' => r.ops f all mk rest fr' x.2.2
    else (putDst fr o.dst undefA fr.loc).bind fun fr' => r.ops f all mk rest fr' s

def St.least (s s' : St) : St := ⟨s'.heap, s'.next, bif Nat.ble s.minw s'.minw then s.minw else s'.minw, s'.ci⟩

/-- a region that draws its order: in the order of the text, with the conditions under which every order does the same -/
def drawS (f : FuncId) (all : Array Oper) (bs : List Nat) (mk : Mask) (rs : List Rec) (i : Nat) (l : List Oper) (fr : Fr) (s : St) : Option (Fr × St) :=
  match l with
  | [] => some (fr, s)
  | o :: rest =>
    bif wantedA all fr.env o then
      (operS Q r f o (maskOf (bs.headD 0) rs mk) fr ⟨s.heap, s.next, s.next, s.ci⟩).bind fun x =>
        bif fits (bs.headD 0) (footOf (Q.hint f) o.dst fr.env o.op) (Nat.blt x.2.2.minw s.next || isStore o.op) rs && Nat.beq s.ci x.2.2.ci then
          (putDst fr o.dst x.1 x.2.1).bind fun fr' =>
            r.draw f all bs.tail mk (⟨i, s.next, x.2.2.next, footOf (Q.hint f) o.dst fr.env o.op, Nat.blt x.2.2.minw s.next || isStore o.op⟩ :: rs) (i + 1) rest fr' (s.least x.2.2)
        else none
    else (putDst fr o.dst undefA fr.loc).bind fun fr' => r.draw f all bs.tail mk rs (i + 1) rest fr' s

def seqS (f : FuncId) (b : Code) (mk : Mask) : Ex × Fr × St → Option (Ex × Fr × St)
  | (.normal, fr, s) => r.code f b mk fr s
  | x => some x

def condS (f : FuncId) (a b : Code) (mk : Mask) (fr : Fr) (s : St) : AVal → Option (Ex × Fr × St)
  | .bool true => r.code f a mk fr s
  | .bool false => r.code f b mk fr s
  | _ => none

def blockS (id : Nat) : Ex × Fr × St → Ex × Fr × St
  | (.exit i, fr, s) => bif Nat.beq i id then (.normal, fr, s) else (.exit i, fr, s)
  | x => x

def regionS (f : FuncId) (ops : Array Oper) (draw : Bool) (mk : Mask) (fr : Fr) (s : St) : Option (Ex × Fr × St) :=
  (bif draw then bif apartAll ops 0 ops.toList (Region.before ops).toList then r.draw f ops (Region.before ops).toList mk [] 0 ops.toList fr s else none
    else r.ops f ops mk ops.toList fr s).bind fun x => some (.normal, x.1, x.2)

/-- code of rounds: no range over a function in it, no labels -/
def flat' : Code → Bool
  | .seq a b => flat' a && flat' b
  | .cond _ a b => flat' a && flat' b
  | .block _ a => flat' a
  | .loop a => flat' a
  | .scope _ => false
  | .rangeFunc _ _ _ _ => false
  | _ => true

def noRef : AVal → Bool
  | .lref _ _ _ => false
  | _ => true

def pendEx : Option Ex → Ex
  | none => .normal
  | some x => x

/-- behind a range over a function -/
def rangeEnd (mk : Mask) (n : Nat) (fr : Fr) (s : St) : Option (Ex × Fr × St) :=
  (s.get mk n).bind fun
    | .loop _ _ _ _ _ _ p => some (pendEx p, fr, s.put n none)
    | _ => none

def hasBody (P : Program) (h : FuncId) : Bool :=
  match P.funcs[h]? with
  | some fn => fn.body.isSome
  | none => false

def rangeS (f : FuncId) (ps : List Tmp) (a b : Code) (mk : Mask) (fr : Fr) (s : St) : AVal → Option (Ex × Fr × St)
  | .func (.func h) first captured => bif hasBody Q.P h && (fr.env.all noRef && (flat' a && flat' b)) then
      (r.call h (first ++ (.yld s.next :: captured)) mk (s.new (.loop f fr.env fr.size ps a b none))).bind fun x => rangeEnd mk s.next fr x.2
    else none
  | _ => none

def codeS (f : FuncId) (c : Code) (mk : Mask) (fr : Fr) (s : St) : Option (Ex × Fr × St) :=
  match c with
  | .skip => some (.normal, fr, s)
  | .label _ => some (.normal, fr, s)
  | .ret => some (.ret, fr, s)
  | .exit id => some (.exit id, fr, s)
  | .seq a b => (r.code f a mk fr s).bind (seqS r f b mk)
  | .cond x a b => (ev fr.env x).bind (condS r f a b mk fr s)
  | .block id b => (r.code f b mk fr s).bind fun x => some (blockS id x)
  | .scope b => r.code f b mk fr s
  | .loop b => (r.code f b mk fr s).bind (seqS r f (.loop b) mk)
  | .region _ ops draw => regionS r f ops draw mk fr s
  | .rangeFunc g ps a b => (ev fr.env g).bind (rangeS Q r f ps.toList a b mk fr s)
  | _ => none

def endS (fn : Func) (mk : Mask) : Ex × Fr × St → Option (AVal × St)
  | (.exit _, _, _) => none
  | (_, fr, s) => (resultsA Q mk fr s fn.results.toList).bind fun vs => some (packA vs, s)

def callS (f : FuncId) (args : List AVal) (mk : Mask) (s : St) : Option (AVal × St) :=
  match Q.spec f with
  | some sp => (sp args).bind fun v => some (v, s)
  | none => match Q.specH f with
    | some sp => (runRd (s.get mk) (sp args)).bind fun v => some (v, s)
    | none => (Q.P.funcs[f]?).bind fun fn => fn.body.bind fun c =>
      (r.code f c mk ⟨ofArgs 0 args, bif Nat.ble args.length fn.ntmps then fn.ntmps else args.length, []⟩ s).bind (endS Q fn mk)

def fnsS : Fns := ⟨opsS Q r, drawS Q r, codeS Q r, callS Q r⟩
end run

def lvl (Q : Prog) : Nat → Fns
  | 0 => .none
  | n + 1 => fnsS Q (lvl Q n)

def callA (Q : Prog) (n : Nat) (f : FuncId) (args : List AVal) (mk : Mask) (s : St) : Option (AVal × St) := (lvl Q n).call f args mk s
end
end Go.Ag
/- Laws of the tries. -/
namespace Go.Ag
namespace Trie
variable {α : Type}
theorem get_nil (n : Nat) : (Trie.nil : Trie α).get n = none := rfl
theorem get_node (l : Trie α) (v : Option α) (r : Trie α) (n : Nat) :
    (Trie.node l v r).get n = if n = 0 then v else if n % 2 = 1 then l.get (n / 2) else r.get (n / 2 - 1) := by
  show @Bool.rec (fun _ => Option α) (@Bool.rec (fun _ => Option α) (r.get (n / 2 - 1)) (l.get (n / 2)) (Nat.beq (n % 2) 1)) v (Nat.beq n 0) = _
  by_cases h0 : n = 0
  · subst h0; rfl
  · have e0 : Nat.beq n 0 = false := by
      cases h : Nat.beq n 0
      · rfl
      · exact absurd (Nat.eq_of_beq_eq_true h) h0
    rw [if_neg h0, e0]
    by_cases h1 : n % 2 = 1
    · rw [if_pos h1, h1]; rfl
    · have e1 : Nat.beq (n % 2) 1 = false := by
        cases h : Nat.beq (n % 2) 1
        · rfl
        · exact absurd (Nat.eq_of_beq_eq_true h) h1
      rw [if_neg h1, e1]

theorem one_zero (x : Option α) (n : Nat) : one x 0 n = .node .nil x .nil := rfl
theorem one_succ (x : Option α) (f n : Nat) :
    one x (f + 1) n = if n = 0 then .node .nil x .nil else if n % 2 = 1 then .node (one x f (n / 2)) none .nil else .node .nil none (one x f (n / 2 - 1)) := by
  show @Bool.rec (fun _ => Trie α) (@Bool.rec (fun _ => Trie α) (.node .nil none (one x f (n / 2 - 1))) (.node (one x f (n / 2)) none .nil) (Nat.beq (n % 2) 1)) (.node .nil x .nil) (Nat.beq n 0) = _
  by_cases h0 : n = 0
  · subst h0; rfl
  · have e0 : Nat.beq n 0 = false := by
      cases h : Nat.beq n 0
      · rfl
      · exact absurd (Nat.eq_of_beq_eq_true h) h0
    rw [if_neg h0, e0]
    by_cases h1 : n % 2 = 1
    · rw [if_pos h1, h1]; rfl
    · have e1 : Nat.beq (n % 2) 1 = false := by
        cases h : Nat.beq (n % 2) 1
        · rfl
        · exact absurd (Nat.eq_of_beq_eq_true h) h1
      rw [if_neg h1, e1]

theorem get_one (x : Option α) : ∀ (f n m : Nat), n ≤ f → (one x f n).get m = if m = n then x else none := by
  intro f
  induction f with
  | zero =>
    intro n m h
    obtain rfl : n = 0 := by omega
    rw [one_zero, get_node, get_nil, get_nil]
    by_cases h : m = 0 <;> simp [h]
  | succ f ih =>
    intro n m h
    rw [one_succ]
    by_cases h0 : n = 0
    · subst h0
      rw [if_pos rfl, get_node, get_nil, get_nil]
      by_cases h : m = 0 <;> simp [h]
    · rw [if_neg h0]
      by_cases h1 : n % 2 = 1
      · rw [if_pos h1, get_node, ih _ _ (by omega), get_nil]
        by_cases hm : m = n
        · subst hm; simp [h0, h1]
        · rw [if_neg hm]
          by_cases m0 : m = 0
          · simp [m0]
          · by_cases m1 : m % 2 = 1
            · rw [if_neg m0, if_pos m1, if_neg (by omega)]
            · simp [m0, m1]
      · rw [if_neg h1, get_node, ih _ _ (by omega), get_nil]
        by_cases hm : m = n
        · subst hm; simp [h0, h1]
        · rw [if_neg hm]
          by_cases m0 : m = 0
          · simp [m0]
          · by_cases m1 : m % 2 = 1
            · simp [m0, m1]
            · rw [if_neg m0, if_neg m1, if_neg (by omega)]

theorem set_nil (n : Nat) (x : Option α) : (Trie.nil : Trie α).set n x = one x n n := rfl
theorem set_node (l : Trie α) (v : Option α) (r : Trie α) (n : Nat) (x : Option α) :
    (Trie.node l v r).set n x = if n = 0 then .node l x r else if n % 2 = 1 then .node (l.set (n / 2) x) v r else .node l v (r.set (n / 2 - 1) x) := by
  show @Bool.rec (fun _ => Trie α) (@Bool.rec (fun _ => Trie α) (.node l v (r.set (n / 2 - 1) x)) (.node (l.set (n / 2) x) v r) (Nat.beq (n % 2) 1)) (.node l x r) (Nat.beq n 0) = _
  by_cases h0 : n = 0
  · subst h0; rfl
  · have e0 : Nat.beq n 0 = false := by
      cases h : Nat.beq n 0
      · rfl
      · exact absurd (Nat.eq_of_beq_eq_true h) h0
    rw [if_neg h0, e0]
    by_cases h1 : n % 2 = 1
    · rw [if_pos h1, h1]; rfl
    · have e1 : Nat.beq (n % 2) 1 = false := by
        cases h : Nat.beq (n % 2) 1
        · rfl
        · exact absurd (Nat.eq_of_beq_eq_true h) h1
      rw [if_neg h1, e1]

theorem get_set (t : Trie α) : ∀ (n m : Nat) (x : Option α), (t.set n x).get m = if m = n then x else t.get m := by
  induction t with
  | nil => intro n m x; rw [set_nil, get_one _ _ _ _ (Nat.le_refl _), get_nil]
  | node l v r il ir =>
    intro n m x
    rw [set_node]
    by_cases h0 : n = 0
    · subst h0
      rw [if_pos rfl, get_node, get_node]
      by_cases h : m = 0 <;> simp [h]
    · rw [if_neg h0]
      by_cases h1 : n % 2 = 1
      · rw [if_pos h1, get_node, get_node, il]
        by_cases hm : m = n
        · subst hm; simp [h0, h1]
        · rw [if_neg hm]
          by_cases m0 : m = 0
          · simp [m0]
          · by_cases m1 : m % 2 = 1
            · rw [if_neg m0, if_pos m1, if_neg (by omega), if_neg m0, if_pos m1]
            · simp [m0, m1]
      · rw [if_neg h1, get_node, get_node, ir]
        by_cases hm : m = n
        · subst hm; simp [h0, h1]
        · rw [if_neg hm]
          by_cases m0 : m = 0
          · simp [m0]
          · by_cases m1 : m % 2 = 1
            · simp [m0, m1]
            · rw [if_neg m0, if_neg m1, if_neg (by omega), if_neg m0, if_neg m1]

@[simp] theorem get_set_same (t : Trie α) (n : Nat) (x : Option α) : (t.set n x).get n = x := by rw [get_set, if_pos rfl]
theorem get_set_ne (t : Trie α) {n m : Nat} (x : Option α) (h : m ≠ n) : (t.set n x).get m = t.get m := by rw [get_set, if_neg h]
end Trie
namespace Trie
theorem all_get {α : Type} {p : α → Bool} : ∀ {t : Trie α}, t.all p = true → ∀ {n : Nat} {x : α}, t.get n = some x → p x = true
  | .nil, _, n, x, h => by cases h
  | .node l v r, h, n, x, hg => by
    have h : (∀ y, v = some y → p y = true) ∧ l.all p = true ∧ r.all p = true := by
      cases v with
      | none =>
        have h : (true && (l.all p && r.all p)) = true := h
        simp only [Bool.true_and, Bool.and_eq_true] at h
        exact ⟨fun _ e => (by cases e), h⟩
      | some z =>
        have h : (p z && (l.all p && r.all p)) = true := h
        simp only [Bool.and_eq_true] at h
        exact ⟨fun _ e => (by injection e with e; subst e; exact h.1), h.2⟩
    have hg : (@Bool.rec (fun _ => Option α) (@Bool.rec (fun _ => Option α) (r.get (n / 2 - 1)) (l.get (n / 2)) (Nat.beq (n % 2) 1)) v (Nat.beq n 0)) = some x := hg
    cases h0 : Nat.beq n 0 with
    | true => rw [h0] at hg; exact h.1 x hg
    | false =>
      rw [h0] at hg
      cases h1 : Nat.beq (n % 2) 1 with
      | true => rw [h1] at hg; exact all_get h.2.1 hg
      | false => rw [h1] at hg; exact all_get h.2.2 hg
end Trie
end Go.Ag
/- What the evaluator's values and objects stand for in memory. -/
namespace Go.Ag

/-- where names lie; which cells never change again, and what they hold; how many cells a block has -/
structure Gh where
  at_ : Nat → Option Addr
  ro : Nat → Nat → Option AVal
  dim : Nat → Option Nat

structure Gh.le (G G' : Gh) : Prop where
  at_ : ∀ n a, G.at_ n = some a → G'.at_ n = some a
  ro : ∀ b o v, G.ro b o = some v → G'.ro b o = some v
  dim : ∀ b d, G.dim b = some d → G'.dim b = some d

theorem Gh.le.refl (G : Gh) : G.le G := ⟨fun _ _ h => h, fun _ _ _ h => h, fun _ _ h => h⟩
theorem Gh.le.trans {G G' G'' : Gh} (h : G.le G') (h' : G'.le G'') : G.le G'' :=
  ⟨fun n a e => h'.at_ n a (h.at_ n a e), fun b o v e => h'.ro b o v (h.ro b o v e), fun b d e => h'.dim b d (h.dim b d e)⟩

def RightR (G : Gh) (sz : Nat) (a : Addr) (len cap : Nat) : Right → Prop
  | .full => cap = len
  | .own n => G.at_ n = some ⟨a.block, a.off + len * sz, none⟩ ∧ ∃ d, G.dim a.block = some d ∧ a.off + cap * sz ≤ d
  | .no => True

theorem RightR.mono {G G' : Gh} (h : G.le G') {sz len cap : Nat} {a : Addr} : ∀ {r : Right}, RightR G sz a len cap r → RightR G' sz a len cap r
  | .full, e => e
  | .own _, ⟨e, d, hd, hle⟩ => ⟨h.at_ _ _ e, d, h.dim _ _ hd, hle⟩
  | .no, _ => trivial

/-- the value of one cell -/
def AVal.scal : AVal → Bool
  | .agg _ => false
  | .tup _ => false
  | .lref _ _ _ => false
  | _ => true

def scals (l : List AVal) : Bool := l.all AVal.scal

mutual
inductive VR (G : Gh) : AVal → Value → Prop
  | bool (b : Bool) : VR G (.bool b) (.bool b)
  | int (k : IntKind) (n : Int) : VR G (.int k n) (.int k n)
  | str (s : List UInt8) : VR G (.str s) (.string ⟨⟨s⟩⟩)
  | agg {cs : List AVal} {vs : List Value} : scals cs = true → VRs G cs vs → VR G (.agg cs) (.agg ⟨vs⟩)
  | tup {cs : List AVal} {vs : List Value} : VRs G cs vs → VR G (.tup cs) (.tuple ⟨vs⟩)
  | nilp : VR G .nilp (.pointer none)
  | ptr {n off : Nat} {a : Addr} : G.at_ n = some a → VR G (.ptr n off) (.pointer (some ⟨a.block, a.off + off, none⟩))
  | ro {cs : List AVal} {b o : Nat} : (∀ i x, cs[i]? = some x → G.ro b (o + i) = some x) → VR G (.ro cs) (.pointer (some ⟨b, o, none⟩))
  | nils : VR G .nils (.slice none 0 0)
  | list {sz : Nat} {xs : List AVal} {r : Right} {a : Addr} {cap : Nat} : (cap = 0 ∨ a.spot = none) → 0 < sz → (∀ x ∈ xs, x.cells.length = sz) → xs.length ≤ cap →
      (∀ i x, (flat xs)[i]? = some x → G.ro a.block (a.off + i) = some x) → RightR G sz a xs.length cap r →
      VR G (.list sz xs r) (.slice (some a) xs.length cap)
  | arr {sz n off len lcap : Nat} {a b : Addr} {cap d : Nat} : G.at_ n = some b → a.spot = none → 0 < sz → len ≤ lcap → lcap ≤ cap →
      (cap = 0 ∨ (a.block = b.block ∧ a.off = b.off + off)) → G.dim b.block = some d → b.off + off + cap * sz ≤ d →
      VR G (.arr sz n off len lcap) (.slice (some a) len cap)
  | nilm : VR G .nilm (.map none)
  | map {n : Nat} {a : Addr} : G.at_ n = some a → VR G (.map n) (.map (some a.block))
  | nilf : VR G .nilf .nilFunc
  | func {f : FuncId} {first captured : List AVal} {fs cs : List Value} : VRs G first fs → VRs G captured cs → VR G (.func (.func f) first captured) (.func (.func f) ⟨fs⟩ ⟨cs⟩)
  | nili : VR G .nili .nilIface
  | iface {t : TypeId} {v : AVal} {x : Value} : VR G v x → VR G (.iface t v) (.iface t x)
  | yld {n : Nat} {a : Addr} : G.at_ n = some a → VR G (.yld n) (.func (.yield a.block) #[] #[])
  | roz {cs : List AVal} {b : Nat} : (∀ i x, cs[i]? = some x → G.ro b i = some x) → VR G (.roz cs) (.pointer (some ⟨b, 0, none⟩))
inductive VRs (G : Gh) : List AVal → List Value → Prop
  | nil : VRs G [] []
  | cons {v : AVal} {x : Value} {vs : List AVal} {xs : List Value} : VR G v x → VRs G vs xs → VRs G (v :: vs) (x :: xs)
end

mutual
theorem VR.mono {G G' : Gh} (h : G.le G') : ∀ {v : AVal} {x : Value}, VR G v x → VR G' v x
  | _, _, .bool b => .bool b
  | _, _, .int k n => .int k n
  | _, _, .str s => .str s
  | _, _, .agg hc hs => .agg hc (VRs.mono h hs)
  | _, _, .tup hs => .tup (VRs.mono h hs)
  | _, _, .nilp => .nilp
  | _, _, .ptr e => .ptr (h.at_ _ _ e)
  | _, _, .ro e => .ro fun i x hx => h.ro _ _ _ (e i x hx)
  | _, _, .nils => .nils
  | _, _, .list a b c d e f => .list a b c d (fun i x hx => h.ro _ _ _ (e i x hx)) (f.mono h)
  | _, _, .arr a b c d e f g i => .arr (h.at_ _ _ a) b c d e f (h.dim _ _ g) i
  | _, _, .nilm => .nilm
  | _, _, .map e => .map (h.at_ _ _ e)
  | _, _, .nilf => .nilf
  | _, _, .func a b => .func (VRs.mono h a) (VRs.mono h b)
  | _, _, .nili => .nili
  | _, _, .iface e => .iface (VR.mono h e)
  | _, _, .yld e => .yld (h.at_ _ _ e)
  | _, _, .roz e => .roz fun i x hx => h.ro _ _ _ (e i x hx)
theorem VRs.mono {G G' : Gh} (h : G.le G') : ∀ {vs : List AVal} {xs : List Value}, VRs G vs xs → VRs G' vs xs
  | _, _, .nil => .nil
  | _, _, .cons a b => .cons (VR.mono h a) (VRs.mono h b)
end

section vrs
variable {G : Gh}
theorem VRs.length {vs : List AVal} {xs : List Value} (h : VRs G vs xs) : vs.length = xs.length := by
  induction vs generalizing xs with
  | nil => cases h; rfl
  | cons v vs ih => cases h with | cons a b => simp [ih b]

theorem VRs.get {vs : List AVal} {xs : List Value} (h : VRs G vs xs) {i : Nat} {v : AVal} (hi : vs[i]? = some v) : ∃ x, xs[i]? = some x ∧ VR G v x := by
  induction vs generalizing xs i with
  | nil => simp at hi
  | cons u vs ih =>
    cases h with
    | cons a b =>
      cases i with
      | zero => simp at hi; subst hi; exact ⟨_, by simp, a⟩
      | succ i => simp at hi; obtain ⟨x, hx, hv⟩ := ih b hi; exact ⟨x, by simpa using hx, hv⟩

theorem VRs.of_get : ∀ {vs : List AVal} {xs : List Value}, vs.length = xs.length → (∀ (i : Nat) v x, vs[i]? = some v → xs[i]? = some x → VR G v x) → VRs G vs xs
  | [], [], _, _ => .nil
  | [], _ :: _, h, _ => by simp at h
  | _ :: _, [], h, _ => by simp at h
  | v :: vs, x :: xs, h, hg => .cons (hg 0 v x (by simp) (by simp)) (VRs.of_get (by simpa using h) fun i v' x' a b => hg (i + 1) v' x' (by simpa using a) (by simpa using b))

theorem VRs.append {a b : List AVal} {x y : List Value} (h : VRs G a x) (h' : VRs G b y) : VRs G (a ++ b) (x ++ y) := by
  induction a generalizing x with
  | nil => cases h; simpa using h'
  | cons v a ih => cases h with | cons p q => exact .cons p (ih q)

theorem VRs.drop {a : List AVal} {x : List Value} (h : VRs G a x) (n : Nat) : VRs G (a.drop n) (x.drop n) := by
  induction n generalizing a x with
  | zero => simpa using h
  | succ n ih => cases h with
    | nil => simpa using VRs.nil
    | cons p q => simpa using ih q

theorem VRs.take {a : List AVal} {x : List Value} (h : VRs G a x) (n : Nat) : VRs G (a.take n) (x.take n) := by
  induction n generalizing a x with
  | zero => simpa using VRs.nil
  | succ n ih => cases h with
    | nil => simpa using VRs.nil
    | cons p q => simpa using .cons p (ih q)

/-- the cells of a value -/
theorem VR.cells {v : AVal} {x : Value} (h : VR G v x) : VRs G v.cells x.cells.toList := by
  cases h <;> first
    | (simpa [AVal.cells, Value.cells] using ‹VRs G _ _›)
    | (refine .cons ?_ .nil; constructor <;> assumption)

theorem VR.scals_cells {v : AVal} {x : Value} (h : VR G v x) (ht : ∀ l, v ≠ .tup l) : scals v.cells = true := by
  cases h <;> first
    | (exact absurd rfl (ht _))
    | assumption
    | rfl

theorem VR.one {v : AVal} {x : Value} (h : VR G v x) (hs : v.scal = true) : x.oneCell' = true := by
  cases h <;> first | rfl | (simp [AVal.scal] at hs)
end vrs

/-- entries of a map -/
structure EntR (G : Gh) (e : Ent) (m : MapEntry) : Prop where
  key : VR G e.key m.key
  val : VR G e.val m.val
  born : e.born = m.born

inductive EntsR (G : Gh) : List Ent → List MapEntry → Prop
  | nil : EntsR G [] []
  | cons {e : Ent} {m : MapEntry} {es : List Ent} {ms : List MapEntry} : EntR G e m → EntsR G es ms → EntsR G (e :: es) (m :: ms)

theorem EntR.mono {G G' : Gh} (h : G.le G') {e : Ent} {m : MapEntry} (x : EntR G e m) : EntR G' e m := ⟨x.key.mono h, x.val.mono h, x.born⟩
theorem EntsR.mono {G G' : Gh} (h : G.le G') {es : List Ent} {ms : List MapEntry} (x : EntsR G es ms) : EntsR G' es ms := by
  induction x with
  | nil => exact .nil
  | cons a _ ih => exact .cons (a.mono h) ih

def iterMap (G : Gh) : Option Nat → Option Nat → Prop
  | none, none => True
  | some n, some b => ∃ a, G.at_ n = some a ∧ a.block = b
  | _, _ => False

def Ex.code : Ex → Code
  | .normal => .skip
  | .exit id => .exit id
  | .ret => .ret

/-- the record of a range over a function, between rounds -/
structure LoopR (G : Gh) (r : Loop) (env : Trie AVal) (size : Nat) (ps : List Tmp) (a b : Code) (p : Option Ex) : Prop where
  state : r.state = (match p with | none => .ready | some _ => .done)
  pending : r.pending = p.map Ex.code
  size : r.tmps.size = size
  env : ∀ t, VR G (nth env t) (r.tmps.getD t undef)
  params : r.params.toList = ps
  assign : r.assign = a
  body : r.body = b
  flatA : flat' a = true
  flatB : flat' b = true

theorem LoopR.mono {G G' : Gh} (h : G.le G') {r : Loop} {env : Trie AVal} {size : Nat} {ps : List Tmp} {a b : Code} {p : Option Ex} (x : LoopR G r env size ps a b p) : LoopR G' r env size ps a b p :=
  ⟨x.state, x.pending, x.size, fun t => (x.env t).mono h, x.params, x.assign, x.body, x.flatA, x.flatB⟩

/-- what an object is at an address -/
def ObjR (G : Gh) (w : World) (a : Addr) : AObj → Prop
  | .cells cs => ∃ C e, w.heap[a.block]? = some (.cells C e (0, 0)) ∧ G.dim a.block = some C.size ∧ ∀ (i : Nat) v, cs[i]? = some v → v.scal = true ∧ ∃ x, C[a.off + i]? = some x ∧ VR G v x
  | .tok => ∃ C e, w.heap[a.block]? = some (.cells C e (0, 0))
  | .map es clock => ∃ ES : Array MapEntry, w.heap[a.block]? = some (.map ES clock) ∧ EntsR G es ES.toList
  | .iter m since seen stepped => a.off = 0 ∧ ∃ m', w.heap[a.block]? = some (.mapIter m' since ⟨seen⟩ stepped) ∧ iterMap G m m'
  | .loop _ env size ps ca cb p => ∃ r : Loop, w.heap[a.block]? = some (.loop r) ∧ LoopR G r env size ps ca cb p

theorem ObjR.mono {G G' : Gh} (h : G.le G') {w : World} {a : Addr} : ∀ {o : AObj}, ObjR G w a o → ObjR G' w a o
  | .cells _, ⟨C, e, hb, hd, hc⟩ => ⟨C, e, hb, h.dim _ _ hd, fun i v hi => let ⟨hs, x, hx, hv⟩ := hc i v hi; ⟨hs, x, hx, hv.mono h⟩⟩
  | .tok, x => x
  | .map _ _, ⟨ES, hb, hs⟩ => ⟨ES, hb, hs.mono h⟩
  | .iter m _ _ _, ⟨h0, m', hb, hm⟩ => ⟨h0, m', hb, by
      cases m <;> cases m' <;> first | exact hm | (obtain ⟨a, ha, hb⟩ := hm; exact ⟨a, h.at_ _ _ ha, hb⟩)⟩
  | .loop .., ⟨r, hb, hr⟩ => ⟨r, hb, hr.mono h⟩

theorem ObjR.of_block {G : Gh} {w w' : World} {a : Addr} (h : w'.heap[a.block]? = w.heap[a.block]?) : ∀ {o : AObj}, ObjR G w a o → ObjR G w' a o
  | .cells _, ⟨C, e, hb, hd, hc⟩ => ⟨C, e, h.trans hb, hd, hc⟩
  | .tok, ⟨C, e, hb⟩ => ⟨C, e, h.trans hb⟩
  | .map _ _, ⟨ES, hb, hs⟩ => ⟨ES, h.trans hb, hs⟩
  | .iter _ _ _ _, ⟨h0, m', hb, hm⟩ => ⟨h0, m', h.trans hb, hm⟩
  | .loop .., ⟨r, hb, hr⟩ => ⟨r, h.trans hb, hr⟩

/-- a block that an object of the heap lies in -/
def Owns (G : Gh) (h : Trie AObj) (b : Nat) : Prop := ∃ n a, h.get n ≠ none ∧ G.at_ n = some a ∧ a.block = b

/-- the world as the heap has it -/
structure WR (G : Gh) (h : Trie AObj) (w : World) : Prop where
  obj : ∀ n o, h.get n = some o → ∃ a, G.at_ n = some a ∧ a.spot = none ∧ ObjR G w a o
  sep : ∀ n m a b, h.get n ≠ none → h.get m ≠ none → G.at_ n = some a → G.at_ m = some b → a.block = b.block → n = m
  ro : ∀ b o v, G.ro b o = some v → v.scal = true ∧ ∃ x, w.cell? ⟨b, o, none⟩ = some x ∧ VR G v x
  apart : ∀ n ob a i v, h.get n = some ob → G.at_ n = some a → G.ro a.block i = some v → ob = .tok ∧ i < a.off
  dim : ∀ b d, G.dim b = some d → ∃ C e, w.heap[b]? = some (.cells C e (0, 0)) ∧ C.size = d
  below : ∀ n a, G.at_ n = some a → a.block < w.heap.size

/-- the world outside is as it was, and no cell that was there has been frozen -/
def Quiet (w w' : World) : Prop := w'.os = w.os ∧ w'.output = w.output ∧ w.heap.size ≤ w'.heap.size ∧ ∀ a, a.block < w.heap.size → w'.frozen? a = w.frozen? a
theorem Quiet.refl (w : World) : Quiet w w := ⟨rfl, rfl, Nat.le_refl _, fun _ _ => rfl⟩
theorem Quiet.trans {w w' w'' : World} (x : Quiet w w') (y : Quiet w' w'') : Quiet w w'' := ⟨y.1.trans x.1, y.2.1.trans x.2.1, Nat.le_trans x.2.2.1 y.2.2.1, fun a h => (y.2.2.2 a (Nat.lt_of_lt_of_le h x.2.2.1)).trans (x.2.2.2 a h)⟩

/-- what has become of the world: the ghost has grown; blocks that no object lay in are as they were; names and fixed cells are new, or where objects lay -/
structure Ext (G : Gh) (h : Trie AObj) (w : World) (G' : Gh) (h' : Trie AObj) (w' : World) (lo hi : Nat) : Prop where
  le : G.le G'
  size : w.heap.size ≤ w'.heap.size
  keep : ∀ b, b < w.heap.size → ¬ Owns G h b → w'.heap[b]? = w.heap[b]?
  owns : ∀ b, b < w.heap.size → Owns G' h' b → Owns G h b
  names : ∀ n a, G'.at_ n = some a → G.at_ n = none → lo ≤ n ∧ n < hi
  cells : ∀ b o v, b < w.heap.size → G'.ro b o = some v → G.ro b o = none → Owns G h b
  quiet : Quiet w w'

theorem Ext.refl {G : Gh} {h : Trie AObj} {w : World} {lo hi : Nat} : Ext G h w G h w lo hi :=
  ⟨.refl G, Nat.le_refl _, fun _ _ _ => rfl, fun _ _ h => h, fun n a h h' => (by rw [h] at h'; cases h'), fun b o v _ h h' => (by rw [h] at h'; cases h'), .refl w⟩

theorem Ext.trans {G G' G'' : Gh} {h h' h'' : Trie AObj} {w w' w'' : World} {lo mid hi : Nat} (x : Ext G h w G' h' w' lo mid) (y : Ext G' h' w' G'' h'' w'' mid hi)
    (l1 : lo ≤ mid) (l2 : mid ≤ hi) : Ext G h w G'' h'' w'' lo hi where
  le := x.le.trans y.le
  size := Nat.le_trans x.size y.size
  keep b hb ho := (y.keep b (Nat.lt_of_lt_of_le hb x.size) fun o => ho (x.owns b hb o)).trans (x.keep b hb ho)
  owns b hb o := x.owns b hb (y.owns b (Nat.lt_of_lt_of_le hb x.size) o)
  names n a h h0 := by
    cases e : G'.at_ n with
    | none => have := y.names n a h e; omega
    | some b => have := x.names n b e h0; omega
  cells b o v hb h h0 := by
    cases e : G'.ro b o with
    | none => exact x.owns b hb (y.cells b o v (Nat.lt_of_lt_of_le hb x.size) h e)
    | some u => exact x.cells b o u hb e h0
  quiet := x.quiet.trans y.quiet

end Go.Ag
/- Memory: runs of loads and stores of cells; how the relation of the world moves with them. -/
namespace Go.Ag

def putBlock (w : World) (b : Nat) (o : Obj) : World := { w with heap := w.heap.setIfInBounds b o }

@[simp] theorem putBlock_size (w : World) (b : Nat) (o : Obj) : (putBlock w b o).heap.size = w.heap.size := by simp [putBlock]
theorem putBlock_get (w : World) (b c : Nat) (o : Obj) (hb : b < w.heap.size) : (putBlock w b o).heap[c]? = if c = b then some o else w.heap[c]? := by
  simp only [putBlock, Array.getElem?_setIfInBounds]
  by_cases h : b = c
  · subst h; simp [hb]
  · simp [h, Ne.symm h]
theorem putBlock_put (w : World) (b : Nat) (o o' : Obj) : putBlock (putBlock w b o) b o' = putBlock w b o' := by
  simp [putBlock]
theorem putBlock_self (w : World) (b : Nat) (o : Obj) (h : w.heap[b]? = some o) : putBlock w b o = w := by
  have hb : b < w.heap.size := by
    rcases Nat.lt_or_ge b w.heap.size with h' | h'
    · exact h'
    · simp [Array.getElem?_eq_none h'] at h
  have e : w.heap.setIfInBounds b o = w.heap := by
    apply Array.ext_getElem?
    intro i
    rw [Array.getElem?_setIfInBounds]
    by_cases hi : b = i
    · subst hi; rw [if_pos rfl, if_pos hb, h]
    · simp [hi]
  unfold putBlock
  rw [e]

theorem lt_of_get {w : World} {b : Nat} {o : Obj} (h : w.heap[b]? = some o) : b < w.heap.size := by
  rcases Nat.lt_or_ge b w.heap.size with h' | h'
  · exact h'
  · simp [Array.getElem?_eq_none h'] at h

theorem cell_of {w : World} {b i : Nat} {C : Array Value} {e : TypeId} {fz : Nat × Nat} (h : w.heap[b]? = some (.cells C e fz)) : w.cell? ⟨b, i, none⟩ = C[i]? := by
  simp [World.cell?, h]

theorem setCell_put {w : World} {b i : Nat} {C : Array Value} {e : TypeId} {fz : Nat × Nat} {v : Value} (h : w.heap[b]? = some (.cells C e fz)) :
    w.setCell ⟨b, i, none⟩ v = putBlock w b (.cells (C.setIfInBounds i v) e fz) := by
  unfold World.setCell putBlock
  congr 1
  apply Array.ext_getElem?
  intro j
  rw [Array.getElem?_modify, Array.getElem?_setIfInBounds]
  by_cases hj : b = j
  · subst hj
    rw [if_pos rfl, if_pos rfl, if_pos (lt_of_get h), h]
    simp
  · simp [hj]

/-- a row written over -/
def writeArr (C : Array Value) (off : Nat) : List Value → Array Value
  | [] => C
  | v :: l => writeArr (C.setIfInBounds off v) (off + 1) l

@[simp] theorem writeArr_size (C : Array Value) (off : Nat) (l : List Value) : (writeArr C off l).size = C.size := by
  induction l generalizing C off with
  | nil => rfl
  | cons v l ih => simp [writeArr, ih]

theorem writeArr_get (C : Array Value) (off : Nat) (l : List Value) (i : Nat) (h : off + l.length ≤ C.size) :
    (writeArr C off l)[i]? = if off ≤ i ∧ i < off + l.length then l[i - off]? else C[i]? := by
  induction l generalizing C off with
  | nil => simp [writeArr]; intro h1 h2; omega
  | cons v l ih =>
    simp only [List.length_cons] at h
    rw [writeArr, ih _ _ (by simp; omega), Array.getElem?_setIfInBounds]
    by_cases h1 : off = i
    · subst h1
      rw [if_neg (by omega), if_pos rfl, if_pos (by omega), if_pos (by simp)]
      simp
    · by_cases h2 : off + 1 ≤ i ∧ i < off + 1 + l.length
      · rw [if_pos h2, if_pos (by simp; omega)]
        have : i - off = (i - (off + 1)) + 1 := by omega
        rw [this]; simp
      · rw [if_neg h2, if_neg h1, if_neg (by simp; omega)]

theorem run_store_cell {P : Program} {w : World} {b i : Nat} {C : Array Value} {e : TypeId} {v : Value} (h : w.heap[b]? = some (.cells C e (0, 0))) (hi : i < C.size)
    (hv : v.oneCell' = true) : (store ⟨b, i, none⟩ v).run P w = .ok () (putBlock w b (.cells (C.setIfInBounds i v) e (0, 0))) := by
  rw [run_store _ _ _ _ _ hv, cell_of h]
  simp only [Array.getElem?_eq_getElem hi]
  have hf : w.frozen? ⟨b, i, none⟩ = false := by simp [World.frozen?, h]
  rw [hf, setCell_put h]
  rfl

theorem add_mk (b o i : Nat) : (⟨b, o, none⟩ : Addr).add i = ⟨b, o + i, none⟩ := by
  unfold Addr.add
  split
  · rename_i h; simp [h]
  · rfl

theorem run_storeCells {P : Program} (b o : Nat) (e : TypeId) : ∀ (vs : List Value) (i : Nat) (w : World) (C : Array Value), w.heap[b]? = some (.cells C e (0, 0)) → o + i + vs.length ≤ C.size →
    (∀ v ∈ vs, v.oneCell' = true) → (storeCells ⟨b, o, none⟩ vs i).run P w = .ok () (putBlock w b (.cells (writeArr C (o + i) vs) e (0, 0))) := by
  intro vs
  induction vs with
  | nil => intro i w C h _ _; simp [storeCells, writeArr, putBlock_self _ _ _ h]
  | cons v vs ih =>
    intro i w C h hl hv
    simp only [List.length_cons] at hl
    rw [storeCells, Sem.run_bind, add_mk, run_store_cell h (by omega) (hv v (by simp)), Result.andThen_ok,
      ih (i + 1) _ _ (by rw [putBlock_get _ _ _ _ (lt_of_get h), if_pos rfl]) (by simp; omega) (fun u hu => hv u (by simp [hu])), putBlock_put, writeArr]
    rfl

theorem run_loadCells_at {P : Program} {w : World} {b o : Nat} {C : Array Value} {e : TypeId} {fz : Nat × Nat} (h : w.heap[b]? = some (.cells C e fz)) (vs : List Value)
    (hv : ∀ (j : Nat) v, vs[j]? = some v → C[o + j]? = some v) : (loadCells ⟨b, o, none⟩ vs.length).run P w = .ok ⟨vs⟩ w := by
  have := run_loadCells_list (P := P) (w := w) ⟨b, o, none⟩ vs (fun j v hj => by rw [add_mk, cell_of h]; exact hv j v hj)
  simpa using this

section wr
variable {G : Gh} {h : Trie AObj} {w : World}

theorem WR.of_heap {w' : World} (x : WR G h w) (e : w'.heap = w.heap) : WR G h w' where
  obj n o ho := by
    obtain ⟨a, ha, hs, hr⟩ := x.obj n o ho
    exact ⟨a, ha, hs, hr.of_block (by rw [e])⟩
  sep := x.sep
  ro b o v hv := by
    obtain ⟨hs, y, hy, hr⟩ := x.ro b o v hv
    exact ⟨hs, y, by rw [← hy]; simp [World.cell?, e], hr⟩
  apart := x.apart
  dim b d hd := by rw [e]; exact x.dim b d hd
  below n a ha := by rw [e]; exact x.below n a ha

theorem frozen_of_heap {w w' : World} (e : w'.heap = w.heap) (a : Addr) : w'.frozen? a = w.frozen? a := by simp [World.frozen?, e]

theorem Ext.of_heap {w' : World} {lo hi : Nat} (e : w'.heap = w.heap) (q : w'.os = w.os ∧ w'.output = w.output) : Ext G h w G h w' lo hi :=
  ⟨.refl G, by rw [e]; exact Nat.le_refl _, fun _ _ _ => by rw [e], fun _ _ h => h, fun n a h h' => (by rw [h] at h'; cases h'), fun b o v _ h h' => (by rw [h] at h'; cases h'), ⟨q.1, q.2, by rw [e]; exact Nat.le_refl _, fun a _ => frozen_of_heap e a⟩⟩

theorem WR.not_named {n : Nat} (x : WR G h w) (hn : G.at_ n = none) : h.get n = none := by
  cases e : h.get n with
  | none => rfl
  | some o => obtain ⟨a, ha, _⟩ := x.obj n o e; rw [hn] at ha; cases ha

theorem WR.ro_lt (x : WR G h w) {b o : Nat} {v : AVal} (hv : G.ro b o = some v) : b < w.heap.size := by
  obtain ⟨_, y, hy, _⟩ := x.ro b o v hv
  exact World.block_lt_of_cell? w ⟨b, o, none⟩ hy

theorem WR.owned_lt (x : WR G h w) {b : Nat} (ho : Owns G h b) : b < w.heap.size := by
  obtain ⟨n, a, _, ha, rfl⟩ := ho; exact x.below n a ha

/-- what a new block brings to the ghost: the cells that stay, the number of cells -/
def Gh.more (G : Gh) (b : Nat) (R : Nat → Option AVal) (D : Option Nat) : Gh where
  at_ := G.at_
  ro c o := if c = b then R o else G.ro c o
  dim c := if c = b then D else G.dim c

def Gh.name (G : Gh) (n : Nat) (a : Addr) : Gh where
  at_ m := if m = n then some a else G.at_ m
  ro := G.ro
  dim := G.dim

theorem alloc_get (w : World) (o : Obj) (c : Nat) : (w.alloc o).heap[c]? = if c = w.heap.size then some o else w.heap[c]? := by
  unfold World.alloc
  rw [Array.getElem?_push]

theorem WR.more_le (x : WR G h w) (R : Nat → Option AVal) (D : Option Nat) : G.le (G.more w.heap.size R D) where
  at_ _ _ e := e
  ro b o v e := by
    have := x.ro_lt e
    simp only [Gh.more]; rw [if_neg (by omega)]; exact e
  dim b d e := by
    obtain ⟨C, t, hb, _⟩ := x.dim b d e
    have := lt_of_get hb
    simp only [Gh.more]; rw [if_neg (by omega)]; exact e

theorem Gh.name_le (G : Gh) {n : Nat} (a : Addr) (hn : G.at_ n = none) : G.le (G.name n a) where
  at_ m b e := by
    simp only [Gh.name]
    rw [if_neg (by intro h; subst h; rw [hn] at e; cases e)]; exact e
  ro _ _ _ e := e
  dim _ _ e := e

/-- no frozen cells -/
def Obj.warm : Obj → Prop
  | .cells _ _ z => z = (0, 0)
  | _ => True

theorem frozen_warm {w : World} {b : Nat} {ob : Obj} (h : w.heap[b]? = some ob) (hw : Obj.warm ob) (a : Addr) (ha : a.block = b) : w.frozen? a = false := by
  subst ha
  unfold World.frozen?
  rw [h]
  cases ob <;> first
    | rfl
    | (simp only [Obj.warm] at hw; subst hw; simp)

theorem quiet_alloc (w : World) {ob : Obj} (hw : Obj.warm ob) : Quiet w (w.alloc ob) := by
  refine ⟨rfl, rfl, by simp, fun a _ => ?_⟩
  by_cases e : a.block = w.heap.size
  · rw [frozen_warm (w := w.alloc ob) (b := w.heap.size) (by rw [alloc_get, if_pos rfl]) hw a e]
    unfold World.frozen?
    rw [e, Array.getElem?_eq_none (Nat.le_refl _)]
  · unfold World.frozen?
    rw [alloc_get, if_neg e]

theorem quiet_put (w : World) {b : Nat} {o ob : Obj} (h : w.heap[b]? = some o) (ho : Obj.warm o) (hw : Obj.warm ob) : Quiet w (putBlock w b ob) := by
  refine ⟨rfl, rfl, by simp, fun a _ => ?_⟩
  by_cases e : a.block = b
  · rw [frozen_warm h ho a e, frozen_warm (w := putBlock w b ob) (b := b) (by rw [putBlock_get w b b ob (lt_of_get h), if_pos rfl]) hw a e]
  · unfold World.frozen?
    rw [putBlock_get w b _ ob (lt_of_get h), if_neg e]

theorem ObjR.warm {a : Addr} {o : AObj} (h : ObjR G w a o) : ∃ ob, w.heap[a.block]? = some ob ∧ Obj.warm ob := by
  cases o with
  | cells cs => obtain ⟨C, e, h, _⟩ := h; exact ⟨_, h, rfl⟩
  | tok => obtain ⟨C, e, h⟩ := h; exact ⟨_, h, rfl⟩
  | map es c => obtain ⟨ES, h, _⟩ := h; exact ⟨_, h, trivial⟩
  | iter m a b c => obtain ⟨_, m', h, _⟩ := h; exact ⟨_, h, trivial⟩
  | loop _ _ _ _ _ _ _ => obtain ⟨r, h, _⟩ := h; exact ⟨_, h, trivial⟩

/-- a new block, with cells that stay -/
theorem WR.alloc (x : WR G h w) (ob : Obj) (R : Nat → Option AVal) (D : Option Nat)
    (hR : ∀ o v, R o = some v → v.scal = true ∧ ∃ C e, ob = .cells C e (0, 0) ∧ ∃ y, C[o]? = some y ∧ VR (G.more w.heap.size R D) v y)
    (hD : ∀ d, D = some d → ∃ C e, ob = .cells C e (0, 0) ∧ C.size = d) (hwm : Obj.warm ob := by trivial) :
    WR (G.more w.heap.size R D) h (w.alloc ob) ∧ ∀ lo hi, Ext G h w (G.more w.heap.size R D) h (w.alloc ob) lo hi := by
  have hle := x.more_le R D
  refine ⟨⟨?_, x.sep, ?_, ?_, ?_, ?_⟩, fun lo hi => ⟨hle, by simp, ?_, ?_, ?_, ?_, quiet_alloc w hwm⟩⟩
  · intro n o ho
    obtain ⟨a, ha, hs, hr⟩ := x.obj n o ho
    refine ⟨a, ha, hs, (hr.mono hle).of_block ?_⟩
    rw [alloc_get, if_neg (Nat.ne_of_lt (x.below n a ha))]
  · intro b o v hv
    simp only [Gh.more] at hv
    by_cases hb : b = w.heap.size
    · rw [if_pos hb] at hv
      obtain ⟨hs, C, e, rfl, y, hy, hr⟩ := hR o v hv
      refine ⟨hs, y, ?_, hr⟩
      subst hb
      rw [cell_of (by rw [alloc_get, if_pos rfl]), hy]
    · rw [if_neg hb] at hv
      obtain ⟨hs, y, hy, hr⟩ := x.ro b o v hv
      refine ⟨hs, y, ?_, hr.mono hle⟩
      rw [← hy]; exact World.cell?_alloc_old w ob ⟨b, o, none⟩ hb
  · intro n ob' a i v hn ha hv
    simp only [Gh.more] at hv
    rw [if_neg (Nat.ne_of_lt (x.below n a ha))] at hv
    exact x.apart n ob' a i v hn ha hv
  · intro b d hd
    simp only [Gh.more] at hd
    rw [alloc_get]
    by_cases hb : b = w.heap.size
    · rw [if_pos hb] at hd ⊢
      obtain ⟨C, e, rfl, hs⟩ := hD d hd
      exact ⟨C, e, rfl, hs⟩
    · rw [if_neg hb] at hd ⊢
      exact x.dim b d hd
  · intro n a ha
    have := x.below n a ha
    simp; omega
  · intro b hb _; rw [alloc_get, if_neg (Nat.ne_of_lt hb)]
  · intro b _ ho; exact ho
  · intro n a e e'; simp only [Gh.more] at e; rw [e] at e'; cases e'
  · intro b o v hb e e'
    simp only [Gh.more] at e
    rw [if_neg (Nat.ne_of_lt hb)] at e
    rw [e] at e'; cases e'

/-- a name for what lies in a block that is nobody's -/
theorem WR.named (x : WR G h w) {n : Nat} {a : Addr} {o : AObj} (hn : G.at_ n = none) (hb : a.block < w.heap.size) (hs : a.spot = none) (ho : ¬ Owns G h a.block)
    (hr : ObjR G w a o) (hc : ∀ i v, G.ro a.block i = some v → o = .tok ∧ i < a.off) : WR (G.name n a) (h.set n (some o)) w := by
  have hle := G.name_le a hn
  refine ⟨?_, ?_, ?_, ?_, x.dim, ?_⟩
  · intro m o' hm
    rw [Trie.get_set] at hm
    by_cases e : m = n
    · rw [if_pos e] at hm
      injection hm with hm; subst hm; subst e
      exact ⟨a, by simp [Gh.name], hs, hr.mono hle⟩
    · rw [if_neg e] at hm
      obtain ⟨b, hb, hs, hr⟩ := x.obj m o' hm
      exact ⟨b, by simp [Gh.name, e, hb], hs, hr.mono hle⟩
  · intro m k c d hm hk hc hd he
    rw [Trie.get_set] at hm hk
    simp only [Gh.name] at hc hd
    by_cases e1 : m = n <;> by_cases e2 : k = n
    · rw [e1, e2]
    · rw [if_pos e1] at hc
      rw [if_neg e2] at hd hk
      injection hc with hc; subst hc
      exact absurd ⟨k, d, hk, hd, he.symm⟩ ho
    · rw [if_neg e1] at hc hm
      rw [if_pos e2] at hd
      injection hd with hd; subst hd
      exact absurd ⟨m, c, hm, hc, he⟩ ho
    · rw [if_neg e1] at hc hm
      rw [if_neg e2] at hd hk
      exact x.sep m k c d hm hk hc hd he
  · intro b o' v hv
    obtain ⟨hs, y, hy, hr⟩ := x.ro b o' v hv
    exact ⟨hs, y, hy, hr.mono hle⟩
  · intro m ob b i v hm hb hv
    rw [Trie.get_set] at hm
    simp only [Gh.name] at hb
    by_cases e : m = n
    · rw [if_pos e] at hm hb
      injection hm with hm; injection hb with hb; subst hm; subst hb
      exact hc i v hv
    · rw [if_neg e] at hm hb
      exact x.apart m ob b i v hm hb hv
  · intro m b hb'
    simp only [Gh.name] at hb'
    by_cases e : m = n
    · rw [if_pos e] at hb'; injection hb' with hb'; subst hb'; exact hb
    · rw [if_neg e] at hb'; exact x.below m b hb'

theorem owns_name {n b : Nat} {a : Addr} {o : AObj} (h' : Owns (G.name n a) (h.set n (some o)) b) : b = a.block ∨ Owns G h b := by
  obtain ⟨m, c, hm, hc, rfl⟩ := h'
  rw [Trie.get_set] at hm
  simp only [Gh.name] at hc
  by_cases e : m = n
  · rw [if_pos e] at hc; injection hc with hc; subst hc; exact .inl rfl
  · rw [if_neg e] at hc hm; exact .inr ⟨m, c, hm, hc, rfl⟩

/-- an object that is given up -/
theorem WR.killed (x : WR G h w) (n : Nat) : WR G (h.set n none) w := by
  refine ⟨?_, ?_, x.ro, ?_, x.dim, x.below⟩
  · intro m o hm
    rw [Trie.get_set] at hm
    by_cases e : m = n
    · rw [if_pos e] at hm; cases hm
    · rw [if_neg e] at hm; exact x.obj m o hm
  · intro m k c d hm hk
    rw [Trie.get_set] at hm hk
    by_cases e1 : m = n
    · rw [if_pos e1] at hm; exact absurd rfl hm
    · by_cases e2 : k = n
      · rw [if_pos e2] at hk; exact absurd rfl hk
      · rw [if_neg e1] at hm; rw [if_neg e2] at hk; exact x.sep m k c d hm hk
  · intro m ob a i v hm
    rw [Trie.get_set] at hm
    by_cases e : m = n
    · rw [if_pos e] at hm; cases hm
    · rw [if_neg e] at hm; exact x.apart m ob a i v hm

theorem owns_killed {n b : Nat} (h' : Owns G (h.set n none) b) : Owns G h b := by
  obtain ⟨m, c, hm, hc, hb⟩ := h'
  rw [Trie.get_set] at hm
  by_cases e : m = n
  · rw [if_pos e] at hm; exact absurd rfl hm
  · rw [if_neg e] at hm; exact ⟨m, c, hm, hc, hb⟩

theorem not_owns_killed (x : WR G h w) {n : Nat} {a : Addr} (hl : h.get n ≠ none) (ha : G.at_ n = some a) : ¬ Owns G (h.set n none) a.block := by
  rintro ⟨m, c, hm, hc, hb⟩
  rw [Trie.get_set] at hm
  by_cases e : m = n
  · rw [if_pos e] at hm; exact absurd rfl hm
  · rw [if_neg e] at hm; exact e (x.sep m n c a hm hl hc ha hb)

theorem Ext.killed {n lo hi : Nat} : Ext G h w G (h.set n none) w lo hi :=
  ⟨.refl G, Nat.le_refl _, fun _ _ _ => rfl, fun _ _ o => owns_killed o, fun n a h h' => (by rw [h] at h'; cases h'), fun b o v _ h h' => (by rw [h] at h'; cases h'), .refl w⟩

/-- an object that has changed in its place -/
theorem WR.changed (x : WR G h w) {n : Nat} {a : Addr} {o o' : AObj} {ob : Obj} (hl : h.get n = some o) (ha : G.at_ n = some a)
    (hr : ObjR G (putBlock w a.block ob) a o')
    (hro : ∀ i v, G.ro a.block i = some v → o' = .tok ∧ ∃ y, (putBlock w a.block ob).cell? ⟨a.block, i, none⟩ = some y ∧ w.cell? ⟨a.block, i, none⟩ = some y)
    (hd : ∀ d, G.dim a.block = some d → ∃ C e, ob = .cells C e (0, 0) ∧ C.size = d) (hwm : Obj.warm ob := by trivial) :
    WR G (h.set n (some o')) (putBlock w a.block ob) ∧ ∀ lo hi, Ext G h w G (h.set n (some o')) (putBlock w a.block ob) lo hi := by
  have hlt := x.below n a ha
  have hblk : ∀ c, (putBlock w a.block ob).heap[c]? = if c = a.block then some ob else w.heap[c]? := fun c => putBlock_get w a.block c ob hlt
  have hown : ∀ b, Owns G (h.set n (some o')) b → Owns G h b := by
    rintro b ⟨m, c, hm, hc, hb⟩
    rw [Trie.get_set] at hm
    by_cases e : m = n
    · subst e; exact ⟨m, c, by rw [hl]; simp, hc, hb⟩
    · rw [if_neg e] at hm; exact ⟨m, c, hm, hc, hb⟩
  have hget : ∀ m, (h.set n (some o')).get m ≠ none → h.get m ≠ none := by
    intro m hm
    rw [Trie.get_set] at hm
    by_cases e : m = n
    · rw [e, hl]; simp
    · rw [if_neg e] at hm; exact hm
  refine ⟨⟨?_, fun m k c d hm hk => x.sep m k c d (hget m hm) (hget k hk), ?_, ?_, ?_, ?_⟩, fun lo hi => ⟨.refl G, by simp, ?_, fun b _ ho => hown b ho, fun n a h h' => (by rw [h] at h'; cases h'), fun b o v _ h h' => (by rw [h] at h'; cases h'), by
    obtain ⟨c, hc, _, hrc⟩ := x.obj n o hl
    rw [ha] at hc; injection hc with hc; subst hc
    obtain ⟨ob0, h1, h2⟩ := hrc.warm
    exact quiet_put w h1 h2 hwm⟩⟩
  · intro m ob' hm
    rw [Trie.get_set] at hm
    by_cases e : m = n
    · rw [if_pos e] at hm; injection hm with hm; subst hm; subst e
      obtain ⟨b, hb, hs, _⟩ := x.obj m o hl
      rw [ha] at hb; injection hb with hb; subst hb
      exact ⟨a, ha, hs, hr⟩
    · rw [if_neg e] at hm
      obtain ⟨b, hb, hs, hr'⟩ := x.obj m ob' hm
      refine ⟨b, hb, hs, hr'.of_block ?_⟩
      rw [hblk, if_neg]
      intro he
      exact e (x.sep m n b a (by rw [hm]; simp) (by rw [hl]; simp) hb ha he)
  · intro b i v hv
    by_cases hb : b = a.block
    · subst hb
      obtain ⟨_, y, hy, hy'⟩ := hro i v hv
      obtain ⟨hs, z, hz, hr'⟩ := x.ro a.block i v hv
      rw [hy'] at hz; injection hz with hz; subst hz
      exact ⟨hs, y, hy, hr'⟩
    · obtain ⟨hs, z, hz, hr'⟩ := x.ro b i v hv
      refine ⟨hs, z, ?_, hr'⟩
      rw [← hz]; simp [World.cell?, hblk, hb]
  · intro m ob' b i v hm hb hv
    rw [Trie.get_set] at hm
    by_cases e : m = n
    · rw [if_pos e] at hm; injection hm with hm; subst hm; subst e
      rw [ha] at hb; injection hb with hb; subst hb
      have h1 := (hro i v hv).1
      have h2 := x.apart m o a i v hl ha hv
      exact ⟨h1, h2.2⟩
    · rw [if_neg e] at hm
      exact x.apart m ob' b i v hm hb hv
  · intro b d hd'
    rw [hblk]
    by_cases hb : b = a.block
    · subst hb
      rw [if_pos rfl]
      obtain ⟨C, e, rfl, hs⟩ := hd d hd'
      exact ⟨C, e, rfl, hs⟩
    · rw [if_neg hb]; exact x.dim b d hd'
  · intro m b hb; simp; exact x.below m b hb
  · intro b hb ho
    rw [hblk, if_neg]
    intro he
    exact ho ⟨n, a, by rw [hl]; simp, ha, he.symm⟩
end wr
end Go.Ag
