/- The evaluator E of the program's code in Lean terms, and its soundness, operation by operation; no condition. -/
import Derived.RangeFuncLeaves
import Derived.RangeFuncCalls
import Derived.WalkKit
import Derived.OrdersIn
import Derived.LoopNIn
namespace Go.E

/-- What is known of a logical block's place: its real block, where it begins there, that block's size, the size of an element of slices into it, whether slices' capacities are known just so, whether it is read alone. -/
structure Pl where
  rb : Nat
  base : Nat
  sz : Nat
  e : Nat
  ex : Bool
  ro : Bool

abbrev Env := List (Option Value)

inductive RExit where
  | norm | ret | exit (id : Nat) | pan (v : Value)
  deriving Inhabited

/-- Operations with all that hangs on types filled in. -/
inductive ROp where
  | mov (x : Operand)
  | pick (c a b : Operand)
  | new (cells : List Value) (elem : TypeId) (n : Nat)
  | box (elem : TypeId) (n : Nat) (x : Operand)
  | build (zero : List Value) (parts : List (Nat × Nat × Operand))
  | buildSlice (elem : TypeId) (size : Nat) (len : Nat) (zero : List Value) (parts : List (Nat × Nat × Operand))
  | load1 (x : Operand)
  | loadN (n : Nat) (x : Operand)
  | store (n : Nat) (a x : Operand)
  | nilCheck (x : Operand)
  | bin (op : BinOp) (t : TypeId) (u : TypeDesc) (x y : Operand)
  | un (op : UnOp) (x : Operand)
  | toInt (k : IntKind) (x : Operand)
  | same (x : Operand)
  | strBytes (elem : TypeId) (x : Operand)
  | bytesStr (x : Operand)
  | iface (t : TypeId) (x : Operand)
  | mkfunc (fn : Fn) (first captured : List Operand)
  | mkmap
  | mkmapN (x : Operand)
  | mkslice (elem : TypeId) (size bytes : Nat) (zero : List Value) (len cap : Operand)
  | sliceStr (x : Operand) (lo hi : Option Operand)
  | sliceSl (size : Nat) (x : Operand) (lo hi max : Option Operand)
  | sliceArr (n size : Nat) (x : Operand) (lo hi max : Option Operand)
  | addOff (off : Nat) (x : Operand)
  | part (off : Nat) (n : Option Nat) (x : Operand)
  | idxS (size : Nat) (x i : Operand)
  | idxA (len size : Nat) (x i : Operand)
  | strAt (x i : Operand)
  | arrAt (len size : Nat) (agg : Bool) (x i : Operand)
  | look (u : TypeDesc) (zero : Value) (m k : Operand) (ok : Bool)
  | mput (u : TypeDesc) (m k x : Operand)
  | rangeStr (x : Operand)
  | rangeMap (x : Operand)
  | next (x : Operand) (str : Bool)
  | assert (asserted : TypeId) (zero : Value) (ok : Bool) (x : Operand)
  | ext (x : Operand) (i : Nat)
  | call (f : FuncId) (args : List Operand)
  | callv (f : Operand) (args : List Operand)
  | callm (recv : Operand) (name : String) (args : List Operand)
  | append (elem : TypeId) (size bytes : Nat) (zero : List Value) (s x : Operand)
  | appendZ (elem : TypeId) (size bytes : Nat) (zero : List Value) (s x : Operand)
  | copy (size : Nat) (d s : Operand)
  | len (u : TypeDesc) (x : Operand)
  | cap (x : Operand)
  | min2 (x y : Operand)
  | max2 (x y : Operand)
  | delete (u : TypeDesc) (m k : Operand)
  | markStr (x : Operand)
  | clear (size : Nat) (zero : List Value) (x : Operand)
  | pan (x : Operand)
  | entry (x : Operand)
  | xbyte (s c : Operand)
  | s2ap (n : Nat) (x : Operand)

structure ROper where
  dst : Option Nat
  op : ROp
  guard : Option (Nat × Bool)

inductive RCode where
  | skip
  | region (ops : List ROper)
  | draw (ops : List ROper) (bef : List Nat) (plan : List Nat)
  | seq (a b : RCode)
  | cond (c : Operand) (a b : RCode)
  | block (id : Nat) (a : RCode)
  | loop (a : RCode)
  | rangeFunc (f : Operand) (params : List Nat) (assign body : RCode)
  | exit (id : Nat)
  | ret

inductive RRes where
  | tmp (t : Nat)
  | cell1 (t : Nat)
  | cellN (t n : Nat)

structure RFunc where
  ntmps : Nat
  results : List RRes
  body : RCode

/-- Logical blocks. -/
inductive AObj where
  | cells (c : List Value) (elem : TypeId) (e : Nat) (ex ro : Bool)
  | map (es : List (Value × Value × Nat)) (clock : Nat)
  | miter (m : Option Nat) (since : Nat) (seen : List Nat) (stepped : Nat)
  | iter (s : ByteArray) (pos : Nat)
  | deferred
  | loop (env : Env) (params : List Nat) (assign body : RCode) (st : LoopState) (pend : Option RExit) (d : Nat)

/-- The blocks by their numbers: a tree, by the numbers' binary digits (the kernel walks it fast). -/
inductive HT (α : Type) where
  | leaf
  | node (v : Option α) (l r : HT α)

namespace HT
variable {α : Type}
def get : HT α → Nat → Option α
  | .leaf, _ => none
  | .node v l r, p => match p with
    | 0 => v
    | p + 1 => cond (Nat.beq (Nat.mod p 2) 0) (get l (Nat.div p 2)) (get r (Nat.div p 2))
def setF : Nat → HT α → Nat → Option α → HT α
  | 0, t, _, _ => t
  | f + 1, .leaf, p, v => match p with
    | 0 => .node v .leaf .leaf
    | p + 1 => cond (Nat.beq (Nat.mod p 2) 0) (.node none (setF f .leaf (Nat.div p 2) v) .leaf) (.node none .leaf (setF f .leaf (Nat.div p 2) v))
  | f + 1, .node u l r, p, v => match p with
    | 0 => .node v l r
    | p + 1 => cond (Nat.beq (Nat.mod p 2) 0) (.node u (setF f l (Nat.div p 2) v) r) (.node u l (setF f r (Nat.div p 2) v))
def set (t : HT α) (p : Nat) (v : Option α) : HT α := setF (Nat.succ p) t p v
def resv : Nat → HT α → Nat → HT α
  | 0, t, _ => t
  | k + 1, t, n => resv k (set t n none) (Nat.succ n)

theorem half_ne {p q : Nat} (h : q ≠ p) (he : p % 2 = q % 2) : q / 2 ≠ p / 2 := by omega
theorem get_setF : ∀ (f : Nat) (t : HT α) (p : Nat) (v : Option α) (q : Nat), p < f → (setF f t p v).get q = if q = p then v else t.get q
  | 0, _, _, _, _, h => by omega
  | f + 1, .leaf, 0, v, q, _ => by
    cases q with
    | zero => simp [setF, get]
    | succ q => simp only [setF, get]; cases Nat.beq (q.mod 2) 0 <;> simp [get]
  | f + 1, .node u l r, 0, v, q, _ => by
    cases q with
    | zero => simp [setF, get]
    | succ q => simp [setF, get]
  | f + 1, .leaf, p + 1, v, q, h => by
    have hp : p / 2 < f := by omega
    have ih := fun q => get_setF f .leaf (p / 2) v q hp
    have e1 : Nat.div p 2 = p / 2 := rfl
    have e2 : Nat.mod p 2 = p % 2 := rfl
    cases q with
    | zero =>
      simp only [setF]
      cases Nat.beq (p.mod 2) 0 <;> simp [get]
    | succ q =>
      have e3 : Nat.div q 2 = q / 2 := rfl
      have e4 : Nat.mod q 2 = q % 2 := rfl
      simp only [setF, e1, e2]
      rcases Nat.mod_two_eq_zero_or_one p with hp2 | hp2 <;> rcases Nat.mod_two_eq_zero_or_one q with hq2 | hq2
      · simp only [hp2, hq2, e3, e4, get, ih, Nat.beq, cond]
        by_cases hqp : q = p
        · subst hqp; simp
        · rw [if_neg (half_ne hqp (by omega)), if_neg (by omega)]
      · simp only [hp2, hq2, e3, e4, get, Nat.beq, cond]
        rw [if_neg (by omega)]
      · simp only [hp2, hq2, e3, e4, get, Nat.beq, cond]
        rw [if_neg (by omega)]
      · simp only [hp2, hq2, e3, e4, get, ih, Nat.beq, cond]
        by_cases hqp : q = p
        · subst hqp; simp
        · rw [if_neg (half_ne hqp (by omega)), if_neg (by omega)]
  | f + 1, .node u l r, p + 1, v, q, h => by
    have hp : p / 2 < f := by omega
    have ih := fun t q => get_setF f t (p / 2) v q hp
    have e1 : Nat.div p 2 = p / 2 := rfl
    have e2 : Nat.mod p 2 = p % 2 := rfl
    cases q with
    | zero =>
      simp only [setF]
      cases Nat.beq (p.mod 2) 0 <;> simp [get]
    | succ q =>
      have e3 : Nat.div q 2 = q / 2 := rfl
      have e4 : Nat.mod q 2 = q % 2 := rfl
      simp only [setF, e1, e2]
      rcases Nat.mod_two_eq_zero_or_one p with hp2 | hp2 <;> rcases Nat.mod_two_eq_zero_or_one q with hq2 | hq2
      · simp only [hp2, hq2, e3, e4, get, ih, Nat.beq, cond]
        by_cases hqp : q = p
        · subst hqp; simp
        · rw [if_neg (half_ne hqp (by omega)), if_neg (by omega)]
      · simp only [hp2, hq2, e3, e4, get, Nat.beq, cond]
        rw [if_neg (by omega)]
      · simp only [hp2, hq2, e3, e4, get, Nat.beq, cond]
        rw [if_neg (by omega)]
      · simp only [hp2, hq2, e3, e4, get, ih, Nat.beq, cond]
        by_cases hqp : q = p
        · subst hqp; simp
        · rw [if_neg (half_ne hqp (by omega)), if_neg (by omega)]
theorem get_set (t : HT α) (p : Nat) (v : Option α) (q : Nat) : (t.set p v).get q = if q = p then v else t.get q := get_setF _ t p v q (Nat.lt_succ_self p)
theorem get_resv : ∀ (k : Nat) (t : HT α) (n q : Nat), (resv k t n).get q = if n ≤ q ∧ q < n + k then none else t.get q
  | 0, t, n, q => by rw [if_neg (by omega)]; rfl
  | k + 1, t, n, q => by
    show (resv k (set t n none) (Nat.succ n)).get q = _
    rw [get_resv k, get_set]
    by_cases h1 : q = n
    · subst h1; rw [if_neg (by omega), if_pos rfl, if_pos (by omega)]
    · rw [if_neg h1]
      by_cases h2 : Nat.succ n ≤ q ∧ q < Nat.succ n + k
      · rw [if_pos h2, if_pos (by omega)]
      · rw [if_neg h2, if_neg (by omega)]
end HT

structure AHeap where
  tr : HT AObj
  next : Nat

namespace AHeap
def empty : AHeap := ⟨.leaf, 0⟩
def get (H : AHeap) (i : Nat) : Option AObj := cond (Nat.ble (Nat.succ i) H.next) (H.tr.get i) none
def set (H : AHeap) (i : Nat) (o : AObj) : AHeap := cond (Nat.ble (Nat.succ i) H.next) ⟨H.tr.set i (some o), H.next⟩ H
def kill (H : AHeap) (i : Nat) : AHeap := ⟨H.tr.set i none, H.next⟩
def alloc (H : AHeap) (o : AObj) : AHeap := ⟨H.tr.set H.next (some o), Nat.succ H.next⟩
def reserve (H : AHeap) (n : Nat) : AHeap := ⟨HT.resv n H.tr H.next, Nat.add H.next n⟩

theorem ble_t {i n : Nat} (h : i < n) : Nat.ble (Nat.succ i) n = true := Nat.ble_eq_true_of_le h
theorem ble_f {i n : Nat} (h : n ≤ i) : Nat.ble (Nat.succ i) n = false := by
  cases hx : Nat.ble (Nat.succ i) n with
  | false => rfl
  | true => have := Nat.le_of_ble_eq_true hx; omega
theorem get_in (H : AHeap) {i : Nat} (h : i < H.next) : H.get i = H.tr.get i := by
  unfold get; rw [ble_t h]; rfl
theorem get_out (H : AHeap) {i : Nat} (h : H.next ≤ i) : H.get i = none := by
  unfold get; rw [ble_f h]; rfl
theorem get_lt {H : AHeap} {i : Nat} {o : AObj} (h : H.get i = some o) : i < H.next := by
  by_cases hi : i < H.next
  · exact hi
  · rw [get_out H (by omega)] at h; cases h
theorem get_ge {H : AHeap} {i : Nat} (h : H.next ≤ i) : H.get i = none := get_out H h
@[simp] theorem next_set (H : AHeap) (i : Nat) (o : AObj) : (H.set i o).next = H.next := by
  unfold set; cases Nat.ble (Nat.succ i) H.next <;> rfl
@[simp] theorem next_kill (H : AHeap) (i : Nat) : (H.kill i).next = H.next := rfl
@[simp] theorem next_alloc (H : AHeap) (o : AObj) : (H.alloc o).next = H.next + 1 := rfl
@[simp] theorem next_reserve (H : AHeap) (n : Nat) : (H.reserve n).next = H.next + n := rfl
theorem get_set (H : AHeap) (i j : Nat) (o : AObj) : (H.set i o).get j = if i = j ∧ i < H.next then some o else H.get j := by
  by_cases hi : i < H.next
  · have e : H.set i o = ⟨H.tr.set i (some o), H.next⟩ := by
      unfold set; rw [ble_t hi]; rfl
    rw [e]
    by_cases hj : j < H.next
    · rw [get_in _ (show j < (⟨H.tr.set i (some o), H.next⟩ : AHeap).next from hj), get_in H hj]
      show (H.tr.set i (some o)).get j = _
      rw [HT.get_set]
      by_cases hij : i = j
      · subst hij; rw [if_pos rfl, if_pos ⟨rfl, hi⟩]
      · rw [if_neg (fun h => hij h.symm), if_neg (fun h => hij h.1)]
    · rw [get_out _ (show (⟨H.tr.set i (some o), H.next⟩ : AHeap).next ≤ j by show H.next ≤ j; omega), get_out H (by omega), if_neg (by omega)]
  · have e : H.set i o = H := by
      unfold set; rw [ble_f (by omega)]; rfl
    rw [e, if_neg (fun h => hi h.2)]
theorem get_kill (H : AHeap) (i j : Nat) : (H.kill i).get j = if i = j then none else H.get j := by
  by_cases hj : j < H.next
  · rw [get_in _ (show j < (H.kill i).next from hj), get_in H hj]
    show (H.tr.set i none).get j = _
    rw [HT.get_set]
    by_cases hij : i = j
    · subst hij; simp
    · rw [if_neg (fun h => hij h.symm), if_neg hij]
  · rw [get_out _ (show (H.kill i).next ≤ j by show H.next ≤ j; omega), get_out H (by omega)]; split <;> rfl
theorem get_alloc (H : AHeap) (o : AObj) (j : Nat) : (H.alloc o).get j = if j = H.next then some o else H.get j := by
  by_cases hj : j < H.next + 1
  · rw [get_in _ (show j < (H.alloc o).next from hj)]
    show (H.tr.set H.next (some o)).get j = _
    rw [HT.get_set]
    by_cases hij : j = H.next
    · rw [if_pos hij, if_pos hij]
    · rw [if_neg hij, if_neg hij, get_in H (by omega)]
  · rw [get_out _ (show (H.alloc o).next ≤ j by show H.next + 1 ≤ j; omega), if_neg (by omega), get_out H (by omega)]
theorem get_reserve (H : AHeap) (n j : Nat) : (H.reserve n).get j = H.get j := by
  by_cases hj : j < H.next
  · rw [get_in _ (show j < (H.reserve n).next by show j < H.next + n; omega), get_in H hj]
    show (HT.resv n H.tr H.next).get j = _
    rw [HT.get_resv, if_neg (by omega)]
  · rw [get_out H (by omega)]
    by_cases h2 : j < H.next + n
    · rw [get_in _ (show j < (H.reserve n).next from h2)]
      show (HT.resv n H.tr H.next).get j = _
      rw [HT.get_resv, if_pos (by omega)]
    · rw [get_out _ (show (H.reserve n).next ≤ j by show H.next + n ≤ j; omega)]
end AHeap

/-- What an operation, and a call, comes to. -/
inductive Res where
  | val (v : Value)
  | skip
  | enter (f : FuncId) (args : List Value)
  | round (l : Nat) (args : List Value)
  | pan (v : Value)

end Go.E

namespace Go.E

class Ver (R : Type) where
  bot : R
  all : Nat → (Nat → R) → R
instance : Ver Prop := ⟨False, fun n f => ∀ i, i < n → f i⟩
instance : Ver Bool := ⟨false, fun n f => (List.range n).all f⟩

/-- Values of one cell without an address. -/
def clo1 : Value → Bool
  | .bool _ | .int _ _ | .float _ _ | .complex _ _ _ | .string _ | .pointer none | .slice none 0 0 | .map none | .nilFunc | .nilIface => true
  | _ => false
def clo : Value → Bool
  | .agg cs => cs.toList.all clo1
  | v => clo1 v
/-- May a value lie in a cell? -/
def isCell : Value → Bool
  | .agg _ | .tuple _ => false
  | _ => true

def opv (env : Env) : Operand → Option Value
  | .tmp t => (env[t]?).join
  | .const v => if clo v then some v else none
  | .func f => some (.func (.func f) #[] #[])
  | .global _ => none

def opvs (env : Env) : List Operand → Option (List Value)
  | [] => some []
  | x :: r => match opv env x, opvs env r with
    | some v, some vs => some (v :: vs)
    | _, _ => none

def maxB : Nat := 70368744177664

/-- A piece of a list, whole. -/
def piece (c : List Value) (off n : Nat) : Option (List Value) :=
  if off + n ≤ c.length then some ((c.drop off).take n) else none
def overwrite (c : List Value) (off : Nat) (vs : List Value) : Option (List Value) :=
  if off + vs.length ≤ c.length then some (c.take off ++ vs ++ c.drop (off + vs.length)) else none

def loadCells (H : AHeap) (v : Value) (n : Nat) : Option (List Value) :=
  match v with
  | .pointer (some ⟨i, off, none⟩) => match H.get i with
    | some (.cells c _ _ _ _) => piece c off n
    | _ => none
  | _ => none
def storeCells (H : AHeap) (v : Value) (vs : List Value) : Option AHeap :=
  match v with
  | .pointer (some ⟨i, off, none⟩) => match H.get i with
    | some (.cells c t e ex false) =>
      if vs.all isCell then match overwrite c off vs with
        | some c' => some (H.set i (.cells c' t e ex false))
        | none => none
      else none
    | _ => none
  | _ => none

/-- The cells of the first n elements of a source: a slice, a string. -/
def srcCells (H : AHeap) (size n : Nat) : Value → Option (List Value)
  | .slice none 0 0 => some []
  | .slice (some ⟨i, off, none⟩) _ _ => match H.get i with
    | some (.cells c _ _ _ _) => piece c off (n * size)
    | _ => none
  | .string s => if size = 1 then some ((s.data.toList.take n).map fun b => .int .u8 b.toNat) else none
  | _ => none
def srcLen : Value → Option Nat
  | .slice _ n _ => some n
  | .string s => some s.size
  | _ => none

def fillL (cells : List Value) : List (Nat × Nat × Value) → Option (List Value)
  | [] => some cells
  | (off, size, v) :: rest =>
    if v.cells.size = size then match overwrite cells off v.cells.toList with
      | some c => fillL c rest
      | none => none
    else none
def partsV (env : Env) : List (Nat × Nat × Operand) → Option (List (Nat × Nat × Value))
  | [] => some []
  | (o, s, x) :: r => match opv env x, partsV env r with
    | some v, some vs => some ((o, s, v) :: vs)
    | _, _ => none

def binInt (op : BinOp) (k : IntKind) (x y : Int) : Option Value :=
  match op with
  | .add => some (.int k (k.wrap (x + y)))
  | .sub => some (.int k (k.wrap (x - y)))
  | .mul => some (.int k (k.wrap (x * y)))
  | .quo => if y = 0 then none else some (.int k (k.wrap (x.tdiv y)))
  | .rem => if y = 0 then none else some (.int k (x.tmod y))
  | .and => some (.int k (k.wrap (BitVec.ofInt k.bits x &&& BitVec.ofInt k.bits y).toNat))
  | .or => some (.int k (k.wrap (BitVec.ofInt k.bits x ||| BitVec.ofInt k.bits y).toNat))
  | .xor => some (.int k (k.wrap (BitVec.ofInt k.bits x ^^^ BitVec.ofInt k.bits y).toNat))
  | .andNot => some (.int k (k.wrap (BitVec.ofInt k.bits x &&& ~~~BitVec.ofInt k.bits y).toNat))
  | .eql => some (.bool (x == y))
  | .neq => some (.bool (x != y))
  | .lss => some (.bool (x < y))
  | .leq => some (.bool (x ≤ y))
  | .gtr => some (.bool (x > y))
  | .geq => some (.bool (x ≥ y))
  | _ => none
def shiftInt (op : BinOp) (k : IntKind) (x y : Int) : Option Value :=
  if y < 0 then none else
  match op with
  | .shl => some (.int k (k.wrap (x * 2 ^ (min y.toNat k.bits))))
  | .shr => some (.int k (x.fdiv (2 ^ (min y.toNat k.bits))))
  | _ => none
def binStr (op : BinOp) (x y : ByteArray) : Option Value :=
  match op with
  | .add => if x.size + y.size ≤ maxB then some (.string (x ++ y)) else none
  | .eql => some (.bool (x.data.toList == y.data.toList))
  | .neq => some (.bool !(x.data.toList == y.data.toList))
  | .lss => some (.bool (Op.bytesLess x.data.toList y.data.toList))
  | .leq => some (.bool (Op.bytesLess x.data.toList y.data.toList || x.data.toList == y.data.toList))
  | .gtr => some (.bool !(Op.bytesLess x.data.toList y.data.toList || x.data.toList == y.data.toList))
  | .geq => some (.bool !(Op.bytesLess x.data.toList y.data.toList))
  | _ => none
/-- Are two values of a type the same? As far as it is told here. -/
def eqV (u : TypeDesc) (c : Bool) (x y : Value) : Option Bool :=
  match u, x, y with
  | .bool, .bool a, .bool b => some (a == b)
  | .pointer _, .pointer none, .pointer b => some b.isNone
  | .pointer _, .pointer (some _), .pointer none => some false
  | .slice _, .slice none _ _, .slice b _ _ => some b.isNone
  | .slice _, .slice (some _) _ _, .slice none _ _ => some false
  | .map _ _, .map none, .map b => some b.isNone
  | .map _ _, .map (some _), .map none => some false
  | .func _ _ _, .nilFunc, .nilFunc => some true
  | .func _ _ _, .nilFunc, .func _ _ _ => some false
  | .func _ _ _, .func _ _ _, .nilFunc => some false
  | .interface _, .nilIface, .nilIface => if c then some true else none
  | .interface _, .nilIface, .iface _ _ => some false
  | .interface _, .iface _ _, .nilIface => some false
  | _, _, _ => none
def isConst : Operand → Bool
  | .const _ => true
  | _ => false
def binV (op : BinOp) (u : TypeDesc) (c : Bool) (x y : Value) : Option Value :=
  match x, y with
  | .int k a, .int k' b => match op with
    | .shl | .shr => shiftInt op k a b
    | _ => if k = k' then binInt op k a b else none
  | .string a, .string b => binStr op a b
  | x, y => match op with
    | .eql => (eqV u c x y).map .bool
    | .neq => (eqV u c x y).map fun b => .bool !b
    | _ => none
def unV (op : UnOp) (x : Value) : Option Value :=
  match op, x with
  | .not, .bool b => some (.bool !b)
  | .neg, .int k n => some (.int k (k.wrap (0 - n)))
  | .xor, .int k n => binInt .xor k (if k.signed then -1 else k.max) n
  | _, _ => none

def nat? (lo : Nat) (v : Value) (hi : Nat) : Option Nat :=
  match v with
  | .int _ i => if (lo : Int) ≤ i ∧ i ≤ hi then some i.toNat else none
  | _ => none
/-- Low, high, max of a slice expression. -/
def bounds (len cap : Nat) (lo hi mx : Option Value) : Option (Nat × Nat × Option Nat) :=
  match (match mx with | some v => (nat? 0 v cap).map some | none => some none) with
  | none => none
  | some m =>
    match (match hi with | some v => nat? 0 v (m.getD cap) | none => if m.isSome then none else some len) with
    | none => none
    | some h => match (match lo with | some v => nat? 0 v h | none => some 0) with
      | none => none
      | some l => some (l, h, m)
def opvO (env : Env) : Option Operand → Option (Option Value)
  | none => some none
  | some x => (opv env x).map some

/-- The place of a key among entries. -/
def findK (u : TypeDesc) (k : Value) : List (Value × Value × Nat) → Nat → Option (Option (Nat × Value))
  | [], _ => some none
  | e :: es, i =>
    match Go.Instr.sameNow u k e.1 with
    | some true => some (some (i, e.2.1))
    | some false => findK u k es (i + 1)
    | none => none
def plainKey : TypeDesc → Bool
  | .int _ | .string | .bool => true
  | _ => false

def u8s : List Value → Option (List UInt8)
  | [] => some []
  | .int .u8 n :: r => (u8s r).map (UInt8.ofNat n.toNat :: ·)
  | _ => none

def appendN (H : AHeap) (elem : TypeId) (size bytes : Nat) (s : Value) (n : Nat) (src : Option (List Value)) : Option (Value × AHeap) :=
  match s with
  | .slice a len cap =>
    if (len + n) * bytes > maxB ∨ len + n > maxB then none else
    match src with
    | none => none
    | some new =>
      if !new.all isCell then none else
      if len + n ≤ cap then
        match a with
        | none => if n = 0 ∧ len = 0 ∧ cap = 0 then some (.slice none 0 0, H) else none
        | some ⟨i, off, none⟩ =>
          if n = 0 then some (.slice a len cap, H) else
          match storeCells H (.pointer (some ⟨i, off + len * size, none⟩)) new with
          | some H' => some (.slice a (len + n) cap, H')
          | none => none
        | _ => none
      else
      match a with
      | none => if len = 0 ∧ cap = 0 then some (.slice (some ⟨H.next, 0, none⟩) n n, H.alloc (.cells new elem size false false)) else none
      | some ⟨i, off, none⟩ => match H.get i with
        | some (.cells c t e ex ro) => match piece c off (len * size) with
          | none => none
          | some old =>
            if ex then some (.slice (some ⟨H.next, 0, none⟩) (len + n) (len + n), H.alloc (.cells (old ++ new) elem size false false))
            else if ro ∨ e ≠ size ∨ t ≠ elem then none
            else some (.slice (some ⟨H.next, 0, none⟩) (len + n) (len + n), (H.kill i).alloc (.cells (old ++ new) elem size false false))
        | _ => none
      | _ => none
  | _ => none
def appendV (H : AHeap) (elem : TypeId) (size bytes : Nat) (s x : Value) : Option (Value × AHeap) :=
  match srcLen x with
  | some n => appendN H elem size bytes s n (srcCells H size n x)
  | none => none

def mkCells (zero : List Value) (n : Nat) : List Value := (List.range n).map fun i => zero.getD (i % zero.length) default

def pickV (z : Value) : Option (Nat × Value) → Value
  | some (_, v) => v
  | none => z

/-- The first place of a byte, or -1. -/
def idxB : List UInt8 → UInt8 → Int → Int
  | [], _, _ => -1
  | b :: l, c, n => if b == c then n else idxB l c (n + 1)

/-- What an operation does. -/
def aop (env : Env) (H : AHeap) : ROp → Option (Res × AHeap)
  | .mov x => (opv env x).map fun v => (.val v, H)
  | .pick c a b => match opv env c with
    | some (.bool true) => (opv env a).map fun v => (.val v, H)
    | some (.bool false) => (opv env b).map fun v => (.val v, H)
    | _ => none
  | .new cells elem n => if cells.all clo1 then some (.val (.pointer (some ⟨H.next, 0, none⟩)), H.alloc (.cells cells elem n true false)) else none
  | .box elem n x => match opv env x with
    | some v => if v.cells.toList.all isCell then some (.val (.pointer (some ⟨H.next, 0, none⟩)), H.alloc (.cells v.cells.toList elem n true false)) else none
    | none => none
  | .build zero parts => match partsV env parts with
    | some ps => if zero.all clo1 then (fillL zero ps).map fun c => (.val (.agg c.toArray), H) else none
    | none => none
  | .buildSlice elem size len zero parts => match partsV env parts with
    | some ps => if zero.all clo1 ∧ (zero.length ≠ 0 ∨ len * size = 0) ∧ len * size ≤ 16777216 then match fillL (mkCells zero (len * size)) ps with
      | some c => if c.all isCell then some (.val (.slice (some ⟨H.next, 0, none⟩) len len), H.alloc (.cells c elem size true false)) else none
      | none => none
      else none
    | none => none
  | .load1 x => match (opv env x).bind (loadCells H · 1) with
    | some [v] => some (.val v, H)
    | _ => none
  | .loadN n x => ((opv env x).bind (loadCells H · n)).map fun vs => (.val (.agg vs.toArray), H)
  | .store n a x => match opv env a, opv env x with
    | some p, some v => if v.cells.size = n then (storeCells H p v.cells.toList).map fun H' => (.skip, H') else none
    | _, _ => none
  | .nilCheck x => match opv env x with
    | some (.pointer (some a)) => some (.val (.pointer (some a)), H)
    | some (.iface t v) => some (.val (.iface t v), H)
    | some (.func (.func f) a c) => some (.val (.func (.func f) a c), H)
    | some (.func (.yield f) a c) => some (.val (.func (.yield f) a c), H)
    | _ => none
  | .bin op _ u x y => match opv env x, opv env y with
    | some a, some b => (binV op u (isConst x || isConst y) a b).map fun v => (.val v, H)
    | _, _ => none
  | .un op x => ((opv env x).bind (unV op)).map fun v => (.val v, H)
  | .toInt k x => match opv env x with
    | some (.int _ n) => some (.val (.int k (k.wrap n)), H)
    | _ => none
  | .same x => match opv env x with
    | some (.string s) => some (.val (.string s), H)
    | _ => none
  | .strBytes elem x => match opv env x with
    | some (.string s) => if s.size ≤ maxB then
        some (.val (.slice (some ⟨H.next, 0, none⟩) s.size s.size), H.alloc (.cells (s.data.toList.map fun b => .int .u8 b.toNat) elem 1 false false)) else none
    | _ => none
  | .bytesStr x => match opv env x with
    | some v => match srcLen v with
      | some n => match (srcCells H 1 n v).bind u8s with
        | some bs => (match v with | .slice _ _ _ => some (.val (.string ⟨bs.toArray⟩), H) | _ => none)
        | none => none
      | none => none
    | none => none
  | .iface t x => (opv env x).map fun v => (.val (.iface t v), H)
  | .mkfunc fn first captured => match fn, opvs env first, opvs env captured with
    | .func f, some a, some c => some (.val (.func (.func f) a.toArray c.toArray), H)
    | _, _, _ => none
  | .mkmap => some (.val (.map (some H.next)), H.alloc (.map [] 0))
  | .mkmapN x => match opv env x with
    | some (.int _ _) => some (.val (.map (some H.next)), H.alloc (.map [] 0))
    | _ => none
  | .mkslice elem size bytes zero l c => match opv env l, opv env c with
    | some (.int .i64 ln), some (.int .i64 cp) =>
      if 0 ≤ ln ∧ ln ≤ cp ∧ cp ≤ maxB ∧ cp * bytes ≤ maxB ∧ zero.all clo1 ∧ (zero.length ≠ 0 ∨ cp.toNat * size = 0) then
        some (.val (.slice (some ⟨H.next, 0, none⟩) ln.toNat cp.toNat), H.alloc (.cells (mkCells zero (cp.toNat * size)) elem size true false)) else none
    | _, _ => none
  | .sliceStr x lo hi => match opv env x, opvO env lo, opvO env hi with
    | some (.string s), some l, some h => (bounds s.size s.size l h none).map fun (l, h, _) => (.val (.string (s.extract l h)), H)
    | _, _, _ => none
  | .sliceSl size x lo hi mx => match opv env x, opvO env lo, opvO env hi, opvO env mx with
    | some (.slice a len cap), some l, some h, some m => match bounds len cap l h m with
      | none => none
      | some (l, h, m) => match a with
        | none => if len = 0 ∧ cap = 0 then some (.val (.slice none 0 0), H) else none
        | some ⟨i, off, none⟩ => match H.get i with
          | some (.cells _ _ e ex _) => if ex ∨ e = size then some (.val (.slice (some ⟨i, off + l * size, none⟩) (h - l) (m.getD cap - l)), H) else none
          | _ => none
        | _ => none
    | _, _, _, _ => none
  | .sliceArr n size x lo hi mx => match opv env x, opvO env lo, opvO env hi, opvO env mx with
    | some (.pointer (some ⟨i, off, none⟩)), some l, some h, some m => match bounds n n l h m with
      | none => none
      | some (l, h, m) => match H.get i with
        | some (.cells c _ _ true _) => if off + n * size ≤ c.length then some (.val (.slice (some ⟨i, off + l * size, none⟩) (h - l) (m.getD n - l)), H) else none
        | _ => none
    | _, _, _, _ => none
  | .addOff off x => match opv env x with
    | some (.pointer (some ⟨i, o, none⟩)) => some (.val (.pointer (some ⟨i, o + off, none⟩)), H)
    | _ => none
  | .part off n x => match opv env x with
    | some (.agg cs) => match n with
      | none => (cs.toList[off]?).map fun v => (.val v, H)
      | some n => if off + n ≤ cs.size then some (.val (.agg ((cs.toList.drop off).take n).toArray), H) else none
    | _ => none
  | .idxS size x i => match opv env x, opv env i with
    | some (.slice (some ⟨b, off, none⟩) len _), some (.int _ i) =>
      if 0 ≤ i ∧ i < len then some (.val (.pointer (some ⟨b, off + i.toNat * size, none⟩)), H) else none
    | _, _ => none
  | .idxA len size x i => match opv env x, opv env i with
    | some (.pointer (some ⟨b, off, none⟩)), some (.int _ i) =>
      if 0 ≤ i ∧ i < len then some (.val (.pointer (some ⟨b, off + i.toNat * size, none⟩)), H) else none
    | _, _ => none
  | .strAt x i => match opv env x, opv env i with
    | some (.string s), some (.int _ i) => if 0 ≤ i then (s.data.toList[i.toNat]?).map fun b => (.val (.int .u8 b.toNat), H) else none
    | _, _ => none
  | .arrAt len size agg x i => match opv env x, opv env i with
    | some (.agg cs), some (.int _ i) => if 0 ≤ i ∧ i < len then
        if agg then (if i.toNat * size + size ≤ cs.size then some (.val (.agg ((cs.toList.drop (i.toNat * size)).take size).toArray), H) else none)
        else (cs.toList[i.toNat * size]?).map fun v => (.val v, H)
      else none
    | _, _ => none
  | .look u zero m k ok => match opv env m, opv env k with
    | some mv, some kv => match (match mv with
        | .map none => some []
        | .map (some i) => (match H.get i with | some (.map es _) => some es | _ => none)
        | _ => none) with
      | none => none
      | some es => match findK u kv es 0 with
        | none => none
        | some r => if clo zero ∧ plainKey u then
          let v := pickV zero r
          some (.val (if ok then .tuple #[v, .bool r.isSome] else v), H) else none
    | _, _ => none
  | .mput u m k x => match opv env m, opv env k, opv env x with
    | some (.map (some i)), some kv, some v => match H.get i with
      | some (.map es clock) => if plainKey u then match findK u kv es 0 with
        | none => none
        | some (some (j, _)) => some (.skip, H.set i (.map (es.modify j fun e => (kv, v, e.2.2)) clock))
        | some none => some (.skip, H.set i (.map (es ++ [(kv, v, clock)]) (clock + 1)))
        else none
      | _ => none
    | _, _, _ => none
  | .rangeStr x => match opv env x with
    | some (.string s) => some (.val (.pointer (some ⟨H.next, 0, none⟩)), H.alloc (.iter s 0))
    | _ => none
  | .rangeMap x => match opv env x with
    | some (.map none) => some (.val (.pointer (some ⟨H.next, 0, none⟩)), H.alloc (.miter none 0 [] 0))
    | some (.map (some i)) => match H.get i with
      | some (.map _ clock) => some (.val (.pointer (some ⟨H.next, 0, none⟩)), H.alloc (.miter (some i) clock [] clock))
      | _ => none
    | _ => none
  | .next x true => match opv env x with
    | some (.pointer (some ⟨i, 0, none⟩)) => match H.get i with
      | some (.iter s pos) => if pos < s.size then
          some (.val (.tuple #[.bool true, .int .i64 pos, .int .i32 (Utf8.decode s pos).1]), H.set i (.iter s (pos + (Utf8.decode s pos).2)))
        else some (.val (.tuple #[.bool false]), H)
      | _ => none
    | _ => none
  | .next _ false => none
  | .assert asserted zero ok x => match opv env x with
    | some (.iface t v) => if t = asserted then some (.val (if ok then .tuple #[v, .bool true] else v), H)
      else if ok ∧ clo zero then some (.val (.tuple #[zero, .bool false]), H) else none
    | some .nilIface => if ok ∧ clo zero then some (.val (.tuple #[zero, .bool false]), H) else none
    | _ => none
  | .ext x i => match opv env x with
    | some (.tuple vs) => (vs.toList[i]?).map fun v => (.val v, H)
    | _ => none
  | .call f args => (opvs env args).map fun vs => (.enter f vs, H)
  | .callv f args => match opv env f, opvs env args with
    | some (.func (.func g) a c), some vs => some (.enter g (a.toList ++ vs ++ c.toList), H)
    | some (.func (.yield l) ⟨[]⟩ ⟨[]⟩), some vs => some (.round l vs, H)
    | _, _ => none
  | .callm _ _ _ => none
  | .append elem size bytes _ s x => match opv env s, opv env x with
    | some sv, some xv => (appendV H elem size bytes sv xv).map fun (v, H') => (.val v, H')
    | _, _ => none
  | .appendZ elem size bytes zero s x => match opv env s, opv env x with
    | some sv, some (.int .i64 l) =>
      if 0 ≤ l ∧ l ≤ maxB ∧ l * bytes ≤ maxB ∧ zero.all clo1 ∧ zero.length = size then (appendN H elem size bytes sv l.toNat (some (mkCells zero (l.toNat * size)))).map fun (v, H') => (.val v, H') else none
    | _, _ => none
  | .copy size d s => match opv env d, opv env s with
    | some (.slice a len _), some sv => match srcLen sv with
      | some n => match srcCells H size (min n len) sv with
        | some cs => (match a with
          | some ⟨i, off, none⟩ => if min n len = 0 then some (.val (.int .i64 0), H) else (storeCells H (.pointer (some ⟨i, off, none⟩)) cs).map fun H' => (.val (.int .i64 (min n len : Nat)), H')
          | none => if len = 0 then some (.val (.int .i64 0), H) else none
          | _ => none)
        | none => none
      | none => none
    | _, _ => none
  | .len u x => match u, opv env x with
    | .string, some (.string s) => some (.val (.int .i64 s.size), H)
    | .slice _, some (.slice _ n _) => some (.val (.int .i64 n), H)
    | .map _ _, some (.map none) => some (.val (.int .i64 0), H)
    | .map _ _, some (.map (some i)) => match H.get i with
      | some (.map es _) => some (.val (.int .i64 es.length), H)
      | _ => none
    | _, _ => none
  | .cap x => match opv env x with
    | some (.slice none _ n) => some (.val (.int .i64 n), H)
    | some (.slice (some ⟨i, _, none⟩) _ n) => match H.get i with
      | some (.cells _ _ _ true _) => some (.val (.int .i64 n), H)
      | _ => none
    | _ => none
  | .min2 x y => match opv env x, opv env y with
    | some (.int k a), some (.int _ b) => some (.val (.int k (if b < a then b else a)), H)
    | _, _ => none
  | .max2 x y => match opv env x, opv env y with
    | some (.int k a), some (.int _ b) => some (.val (.int k (if b > a then b else a)), H)
    | _, _ => none
  | .delete u m k => match opv env m, opv env k with
    | some (.map (some i)), some kv => match H.get i with
      | some (.map es clock) => if plainKey u then match findK u kv es 0 with
        | none => none
        | some (some (j, _)) => some (.val (.tuple #[]), H.set i (.map (es.eraseIdx j) clock))
        | some none => some (.val (.tuple #[]), H)
        else none
      | _ => none
    | some (.map none), some _ => if plainKey u then some (.val (.tuple #[]), H) else none
    | _, _ => none
  | .markStr x => match opv env x with
    | some (.slice (some ⟨i, off, none⟩) n c) => match H.get i with
      | some (.cells _ _ _ _ false) => some (.val (.slice (some ⟨i, off, none⟩) n c), H)
      | _ => none
    | _ => none
  | .clear size zero x => match opv env x with
    | some (.slice none 0 0) => some (.val (.tuple #[]), H)
    | some (.slice (some ⟨i, off, none⟩) n _) =>
      if n = 0 then some (.val (.tuple #[]), H) else if zero.length = size ∧ zero.all clo1 then (storeCells H (.pointer (some ⟨i, off, none⟩)) (mkCells zero (n * size))).map fun H1 => (.val (.tuple #[]), H1) else none
    | _ => none
  | .pan x => match opv env x with
    | some (.iface t v) => some (.pan (.iface t v), H)
    | _ => none
  | .entry x => match opv env x with
    | some (.pointer (some ⟨i, 0, none⟩)) => match H.get i with
      | some (.miter (some m) _ seen stepped) => match seen.getLast?, H.get m with
        | some stamp, some (.map es clock) => if clock = stepped then match es.find? (fun e => e.2.2 == stamp) with
          | some e => some (.val (.tuple #[e.1, e.2.1]), H)
          | none => none
          else none
        | _, _ => none
      | _ => none
    | _ => none
  | .xbyte s c => match opv env s, opv env c with
    | some (.string s), some (.int .u8 c) => some (.val (.int .i64 (idxB s.data.toList c.toNat.toUInt8 0)), H)
    | _, _ => none
  | .s2ap n x => match opv env x with
    | some (.slice (some ⟨i, off, none⟩) len _) => if n ≤ len ∧ 0 < n then some (.val (.pointer (some ⟨i, off, none⟩)), H) else none
    | _ => none

end Go.E

namespace Go.E

/-- The state of an activation: its slots; the blocks for its loops' deferred calls; the loop whose round it is. -/
structure St where
  env : Env
  marks : List Nat
  round : Option Nat

inductive CRes where
  | ret (v : Value)
  | pan (v : Value)

/-- A function: its code, or what is known of it. -/
inductive FnD where
  | code (f : RFunc)
  | prim (p : List Value → AHeap → Option (CRes × AHeap))

structure Tab where
  fn : FuncId → Option FnD
  meth : TypeId → String → Option FuncId

def Env.put (env : Env) (d : Option Nat) (v : Option Value) : Env :=
  match d with
  | some t => env.set t v
  | none => env
def Env.puts (env : Env) : List Nat → List Value → Env
  | t :: ts, v :: vs => Env.puts (env.set t (some v)) ts vs
  | _, _ => env
def St.put (st : St) (d : Option Nat) (v : Option Value) : St := { st with env := st.env.put d v }

/-- Is an operation wanted? none: it is not known. -/
def wanted (env : Env) (o : ROper) : Option Bool :=
  match o.guard with
  | none => some true
  | some (t, b) => match (env[t]?).join with
    | some (.bool c) => some (c == b)
    | some _ => some false
    | none => none

/-- What an activation hands back. -/
def resV (env : Env) (H : AHeap) : RRes → Option Value
  | .tmp t => (env[t]?).join
  | .cell1 t => match ((env[t]?).join).bind (loadCells H · 1) with
    | some [v] => some v
    | _ => none
  | .cellN t n => (((env[t]?).join).bind (loadCells H · n)).map fun vs => .agg vs.toArray
def resVs (env : Env) (H : AHeap) : List RRes → Option (List Value)
  | [] => some []
  | r :: rs => match resV env H r, resVs env H rs with
    | some v, some vs => some (v :: vs)
    | _, _ => none
def tupled : List Value → Value
  | [v] => v
  | vs => .tuple vs.toArray
def shutMarks (H : AHeap) : List Nat → Option AHeap
  | [] => some H
  | d :: ds => match H.get d with
    | some .deferred => shutMarks (H.kill d) ds
    | _ => none

section
variable {R : Type} [Ver R]

structure S3 (R : Type) where
  code : RCode → St → AHeap → (RExit → St → AHeap → R) → R
  call : FuncId → List Value → AHeap → (CRes → AHeap → R) → R

/-- An entry of a map, the way a walk over it goes on. -/
def mapLeft (es : List (Value × Value × Nat)) (since : Nat) (seen : List Nat) : List (Value × Value × Nat) × Bool :=
  let left := es.filter fun e => !seen.contains e.2.2
  let old := left.filter fun e => e.2.2 < since
  (old ++ left.filter (fun e => e.2.2 ≥ since), old.isEmpty)

/-- The next entry of a map's walk: whichever it is. -/
def anext (H : AHeap) (v : Option Value) (k : Res → AHeap → R) : R :=
  match v with
  | some (.pointer (some ⟨i, 0, none⟩)) => match H.get i with
    | some (.miter none _ _ _) => k (.val (.tuple #[.bool false])) H
    | some (.miter (some m) since seen stepped) => match H.get m with
      | some (.map es clock) =>
        if !seen.isEmpty && !es.isEmpty && es.all (fun e => e.2.2 ≥ stepped) then Ver.bot else
        let (l, over) := mapLeft es since seen
        let n := if over then l.length + 1 else l.length
        Ver.all n fun c =>
          if over && c == 0 then k (.val (.tuple #[.bool false])) H
          else match l[if over then c - 1 else c]? with
            | some e => k (.val (.tuple #[.bool true, e.1, e.2.1])) (H.set i (.miter (some m) since (seen ++ [e.2.2]) clock))
            | none => Ver.bot
      | _ => Ver.bot
    | _ => Ver.bot
  | _ => Ver.bot

variable (T : Tab) (S : S3 R)

def evOp (env : Env) (o : ROp) (H : AHeap) (k : Res → AHeap → R) : R :=
  match o with
  | .next x false => anext H (opv env x) k
  | .callm recv name args => match opv env recv, opvs env args with
    | some (.iface t v), some vs => match T.meth t name with
      | some f => k (.enter f (v :: vs)) H
      | none => Ver.bot
    | _, _ => Ver.bot
  | o => match aop env H o with
    | some (r, H') => k r H'
    | none => Ver.bot

/-- A round of a range over a function. -/
def roundS (l : Nat) (args : List Value) (H : AHeap) (k : Value → AHeap → R) : R :=
  match H.get l with
  | some (.loop env params assign body _ _ _) =>
    if args.length ≠ params.length then Ver.bot else
    S.code assign ⟨env.puts params args, [], some l⟩ H fun e st1 H1 =>
      match e, H1.get l with
      | .norm, some (.loop env' p' a' b' .ready pend d) =>
        S.code body st1 (H1.set l (.loop env' p' a' b' .busy pend d)) fun e _ H2 =>
          match H2.get l with
          | some (.loop env' p' a' b' _ _ d) =>
            match e with
            | .norm => k (.bool true) (H2.set l (.loop env' p' a' b' .ready none d))
            | .pan _ => Ver.bot
            | e => k (.bool false) (H2.set l (.loop env' p' a' b' .done (some e) d))
          | _ => Ver.bot
      | _, _ => Ver.bot
  | _ => Ver.bot

/-- An operation, with the calls that it makes. -/
def evOper (o : ROper) (st : St) (H : AHeap) (k : Value → AHeap → R) (kp : Value → AHeap → R) : R :=
  match wanted st.env o with
  | some true => evOp T st.env o.op H fun r H' =>
    match r with
    | .val v => k v H'
    | .skip => k undef H'
    | .pan v => kp v H'
    | .enter f args => S.call f args H' fun cr H'' =>
      match cr with
      | .ret v => k v H''
      | .pan v => kp v H''
    | .round l args => roundS S l args H' fun v H'' => k v H''
  | some false => k undef H
  | none => Ver.bot

def evOps : List ROper → St → AHeap → (RExit → St → AHeap → R) → R
  | [], st, H, k => k .norm st H
  | o :: rest, st, H, k =>
    evOper T S o st H (fun v H' => evOps rest (st.put o.dst (some v)) H' k) (fun v H' => k (.pan v) st H')

/-- Is an operation one that hangs on its operands alone? -/
def isPure : ROp → Bool
  | .mov _ | .pick .. | .build .. | .nilCheck _ | .bin .. | .un .. | .toInt .. | .same _ | .iface .. | .mkfunc .. | .sliceStr .. | .addOff .. | .part .. | .idxS .. | .idxA .. | .strAt .. | .arrAt ..
  | .assert .. | .ext .. | .min2 .. | .max2 .. => true
  | _ => false
/-- .. that reads, beside? -/
def isRead : ROp → Bool
  | .load1 _ | .loadN .. | .look .. | .len .. | .cap _ | .sliceSl .. | .sliceArr .. | .bytesStr _ => true
  | _ => false
def isAlloc : ROp → Bool
  | .new .. | .box .. | .buildSlice .. => true
  | _ => false
/-- What an operation that makes a block would lay at a place. -/
def allocC (env : Env) (i : Nat) : ROp → Option (Value × AObj)
  | .new cells elem n => if cells.all clo1 then some (.pointer (some ⟨i, 0, none⟩), .cells cells elem n true false) else none
  | .box elem n x => match opv env x with
    | some v => if v.cells.toList.all isCell then some (.pointer (some ⟨i, 0, none⟩), .cells v.cells.toList elem n true false) else none
    | none => none
  | .buildSlice elem size len zero parts => match partsV env parts with
    | some ps => if zero.all clo1 ∧ (zero.length ≠ 0 ∨ len * size = 0) ∧ len * size ≤ 16777216 then match fillL (mkCells zero (len * size)) ps with
      | some c => if c.all isCell then some (.slice (some ⟨i, 0, none⟩) len len, .cells c elem size true false) else none
      | none => none
      else none
    | none => none
  | _ => none

/-- The state within a region that draws its order: what was read; what is yet to be laid. -/
structure DSt where
  st : St
  watch : List (Nat × ROp × Env × Value)
  pend : List (Nat × Nat × AObj)

def ptrs : List Value → List Value → Bool
  | [], [] => true
  | .pointer a :: l, .pointer b :: m => a == b && ptrs l m
  | .string a :: l, .string b :: m => a.data.toList == b.data.toList && ptrs l m
  | .int j a :: l, .int k b :: m => j == k && a == b && ptrs l m
  | _, _ => false
/-- Two values read, one and the same (as far as it can be told). -/
def veq1 : Value → Value → Bool
  | .bool a, .bool b => a == b
  | .int j a, .int k b => j == k && a == b
  | .float j a, .float k b => j == k && a == b
  | .complex j a c, .complex k b d => j == k && a == b && c == d
  | .string a, .string b => a.data.toList == b.data.toList
  | .pointer a, .pointer b => a == b
  | .slice a n c, .slice b m d => a == b && n == m && c == d
  | .map a, .map b => a == b
  | .chan a, .chan b => a == b
  | .func f ⟨as⟩ ⟨cs⟩, .func g ⟨bs⟩ ⟨ds⟩ => f == g && ptrs as bs && ptrs cs ds
  | .nilFunc, .nilFunc => true
  | .nilIface, .nilIface => true
  | .iface t (.pointer a), .iface u (.pointer b) => t == u && a == b
  | .iface t (.int j a), .iface u (.int k b) => t == u && j == k && a == b
  | _, _ => false
def veqs : List Value → List Value → Bool
  | [], [] => true
  | a :: as, b :: bs => veq1 a b && veqs as bs
  | _, _ => false
def veq : Value → Value → Bool
  | .agg a, .agg b => veqs a.toList b.toList
  | a, b => veq1 a b

def fills (H : AHeap) : List (Nat × Nat × AObj) → AHeap
  | [] => H
  | (_, id, o) :: r => fills (H.set id o) r

def watchOk (H : AHeap) : List (Nat × ROp × Env × Value) → Bool
  | [] => true
  | (_, op, env, v) :: r => (match aop env H op with
    | some (.val u, _) => veq v u
    | _ => false) && watchOk H r

/-- A region that draws its order: light operations as early as can be, the others in their order; what is read is read again behind each of the others that it may come behind. -/
def evDraw (ops : List ROper) (bef : List Nat) (r0 : Nat) : List Nat → DSt → AHeap → (RExit → St → AHeap → R) → R
  | [], ds, H, k => k .norm ds.st (fills H ds.pend)
  | i :: rest, ds, H, k =>
    match ops[i]? with
    | none => Ver.bot
    | some o =>
      match wanted ds.st.env o with
      | none => Ver.bot
      | some false => evDraw ops bef r0 rest { ds with st := ds.st.put o.dst (some undef) } H k
      | some true =>
        if isPure o.op then
          match aop ds.st.env H o.op with
          | some (.val v, _) => evDraw ops bef r0 rest { ds with st := ds.st.put o.dst (some v) } H k
          | _ => Ver.bot
        else if isRead o.op then
          match aop ds.st.env H o.op with
          | some (.val v, _) => evDraw ops bef r0 rest { ds with st := ds.st.put o.dst (some v), watch := (i, o.op, ds.st.env, v) :: ds.watch } H k
          | _ => Ver.bot
        else if isAlloc o.op then
          match allocC ds.st.env (r0 + i) o.op with
          | some (v, ob) => evDraw ops bef r0 rest { ds with st := ds.st.put o.dst (some v), pend := ds.pend ++ [(i, r0 + i, ob)] } H k
          | none => Ver.bot
        else
          let b := bef.getD i 0
          let w := ds.watch.filter fun x => !b.testBit x.1
          evOper T S o ds.st (fills H (ds.pend.filter fun x => b.testBit x.1))
            (fun v H' => if watchOk H' w then evDraw ops bef r0 rest ⟨ds.st.put o.dst (some v), w, ds.pend.filter fun x => !b.testBit x.1⟩ H' k else Ver.bot)
            (fun _ _ => Ver.bot)

def retS (st : St) (H : AHeap) (rs : List RRes) (k : CRes → AHeap → R) : R :=
  match shutMarks H st.marks with
  | some H1 => match resVs st.env H1 rs with
    | some vs => k (.ret (tupled vs)) H1
    | none => Ver.bot
  | none => Ver.bot

/-- What a range over a function does next. -/
def jumpK (pend : Option RExit) (k : RExit → R) : R :=
  match pend with
  | none => k .norm
  | some .ret => k .ret
  | some (.exit id) => k (.exit id)
  | _ => Ver.bot

def stepCode : RCode → St → AHeap → (RExit → St → AHeap → R) → R
  | .skip, st, H, k => k .norm st H
  | .region ops, st, H, k => evOps T S ops st H k
  | .draw ops bef plan, st, H, k => evDraw T S ops bef H.next plan ⟨st, [], []⟩ (H.reserve ops.length) k
  | .seq a b, st, H, k => S.code a st H fun e st H => match e with
    | .norm => S.code b st H k
    | e => k e st H
  | .cond c a b, st, H, k => match opv st.env c with
    | some (.bool true) => S.code a st H k
    | some (.bool false) => S.code b st H k
    | _ => Ver.bot
  | .block id a, st, H, k => S.code a st H fun e st H => match e with
    | .exit j => if j = id then k .norm st H else k (.exit j) st H
    | e => k e st H
  | .loop a, st, H, k => S.code a st H fun e st H => match e with
    | .norm => S.code (.loop a) st H k
    | e => k e st H
  | .rangeFunc f params assign body, st, H, k =>
    match opv st.env f with
    | some (.func (.func g) first cap) =>
      match st.round with
      | none =>
        let l := H.next + 1
        S.call g (first.toList ++ [.func (.yield l) #[] #[]] ++ cap.toList)
          ((H.alloc .deferred).alloc (.loop st.env params assign body .ready none H.next)) fun cr H1 =>
          match cr with
          | .pan v => k (.pan v) { st with marks := H.next :: st.marks } H1
          | .ret _ => match H1.get l with
            | some (.loop env p a b s pend d) =>
              if s = .busy then Ver.bot else
              jumpK pend fun e => k e { st with marks := H.next :: st.marks } (H1.set l (.loop env p a b .exhausted pend d))
            | _ => Ver.bot
      | some l0 => match H.get l0 with
        | some (.loop _ _ _ _ _ _ d0) =>
          let l := H.next
          S.call g (first.toList ++ [.func (.yield l) #[] #[]] ++ cap.toList)
            (H.alloc (.loop st.env params assign body .ready none d0)) fun cr H1 =>
            match cr with
            | .pan v => k (.pan v) st H1
            | .ret _ => match H1.get l with
              | some (.loop env p a b s pend d) =>
                if s = .busy then Ver.bot else
                jumpK pend fun e => k e st (H1.set l (.loop env p a b .exhausted pend d))
              | _ => Ver.bot
        | _ => Ver.bot
    | _ => Ver.bot
  | .exit id, st, H, k => k (.exit id) st H
  | .ret, st, H, k => k .ret st H

def stepCall (f : FuncId) (args : List Value) (H : AHeap) (k : CRes → AHeap → R) : R :=
  match T.fn f with
  | some (.code rf) =>
    if args.length ≤ rf.ntmps then
      S.code rf.body ⟨args.map some ++ List.replicate (rf.ntmps - args.length) (some undef), [], none⟩ H fun e st H =>
        match e with
        | .norm | .ret => retS st H rf.results k
        | .pan v => match shutMarks H st.marks with
          | some H1 => k (.pan v) H1
          | none => Ver.bot
        | .exit _ => Ver.bot
    else Ver.bot
  | some (.prim p) => match p args H with
    | some (r, H') => k r H'
    | none => Ver.bot
  | none => Ver.bot

def evN : Nat → S3 R
  | 0 => ⟨fun _ _ _ _ => Ver.bot, fun _ _ _ _ => Ver.bot⟩
  | n + 1 => ⟨stepCode T (evN n), stepCall T (evN n)⟩

end
end Go.E

namespace Go.E

def aggSize (P : Program) (t : TypeId) : Option (Option Nat) :=
  match P.underlying t, P.info? t with
  | some (.struct _), some i | some (.array _ _), some i => some (some i.size)
  | some _, some _ => some none
  | _, _ => none

def closedO : Operand → Bool
  | .const v => clo v
  | .global _ => false
  | _ => true

/-- The places of a struct's parts. -/
def fieldPlaces (P : Program) (fields : Array Field) : List (Nat × Operand) → Option (List (Nat × Nat × Operand))
  | [] => some []
  | (i, x) :: r => match fields[i]?, fieldPlaces P fields r with
    | some f, some ps => match P.info? f.type with
      | some inf => some ((f.offset, inf.size, x) :: ps)
      | none => none
    | _, _ => none

/-- Every field's size is known: what the model asks of all fields. -/
def sizesOk (P : Program) (fields : Array Field) : Bool := fields.all fun f => (P.info? f.type).isSome

def isSrc : TypeDesc → Bool
  | .slice _ | .string => true
  | _ => false

def rcall (P : Program) (c : Call) (type : TypeId) : Option ROp :=
  match c.callee with
  | .value (.func f) => match P.funcs[f]?, c.args.toList with
    | some fn, [s, x] => if fn.body.isNone && fn.name == "internal/bytealg.IndexByteString" && fn.origin == "" then some (.xbyte s x) else some (.call f c.args.toList)
    | _, _ => some (.call f c.args.toList)
  | .value f => some (.callv f c.args.toList)
  | .invoke recv name => some (.callm recv name c.args.toList)
  | .builtin b => match b, c.args.toList, c.argTypes.toList with
    | .append, [s, x], [st, xt] => match P.underlying st, P.underlying xt with
      | some (.slice e), some (.int _) => match P.info? e with
        | some i => match i.zero with
          | some z => if i.size ≠ 0 ∧ i.bytes ≠ 0 ∧ z.cells.size = i.size then some (.appendZ e i.size i.bytes z.cells.toList s x) else none
          | none => none
        | none => none
      | some (.slice e), some u => match P.info? e with
        | some i => match i.zero with
          | some z => if i.size ≠ 0 ∧ i.bytes ≠ 0 ∧ isSrc u = true ∧ z.cells.size = i.size then some (.append e i.size i.bytes z.cells.toList s x) else none
          | none => none
        | none => none
      | _, _ => none
    | .copy, [d, s], [dt, _] => match P.underlying dt with
      | some (.slice e) => (P.info? e).bind fun i => if i.size ≠ 0 then some (.copy i.size d s) else none
      | _ => none
    | .len, [x], [t] => match P.underlying t with
      | some (.array n _) => some (.mov (.const (.int .i64 n)))
      | some (.pointer _) => none
      | some u => some (.len u x)
      | none => none
    | .cap, [x], [t] => match P.underlying t with
      | some (.slice _) => some (.cap x)
      | _ => none
    | .min, [x, y], _ => some (.min2 x y)
    | .max, [x, y], _ => some (.max2 x y)
    | .delete, [m, k], [t, _] => match P.underlying t with
      | some (.map kt _) => (P.underlying kt).map fun u => .delete u m k
      | _ => none
    | .clear, [x], [t] => match P.underlying t with
      | some (.slice e) => match P.info? e with
        | some i => i.zero.map fun z => .clear i.size z.cells.toList x
        | none => none
      | _ => none
    | .panic, [x], _ => some (.pan x)
    | _, _, _ => none

/-- An operation with its types' facts filled in. -/
def rop (P : Program) (type : TypeId) : Op → Option ROp
  | .move x | .assign x => some (.mov x)
  | .pick c a b => some (.pick c a b)
  | .alloc t => (P.info? t).bind fun i => i.zero.map fun z => .new z.cells.toList t i.size
  | .box t x => (P.info? t).map fun i => .box t i.size x
  | .build t parts => match P.info? t, P.underlying t with
    | some i, some (.struct fields) => match i.zero with
      | some z => if sizesOk P fields then (fieldPlaces P fields parts.toList).map fun ps => .build z.cells.toList ps else none
      | none => none
    | some i, some (.array _ e) => match i.zero, P.info? e with
      | some z, some ei => some (.build z.cells.toList (parts.toList.map fun (j, x) => (j * ei.size, ei.size, x)))
      | _, _ => none
    | _, _ => none
  | .buildSlice t len parts => match P.underlying t with
    | some (.slice e) => match P.info? e with
      | some i => i.zero.map fun z => .buildSlice e i.size len z.cells.toList (parts.toList.map fun (j, x) => (j * i.size, i.size, x))
      | none => none
    | _ => none
  | .load t x => (aggSize P t).map fun | none => .load1 x | some n => .loadN n x
  | .store t a x => (P.info? t).map fun i => .store i.size a x
  | .nilCheck x => some (.nilCheck x)
  | .binOp op t x y _ => (P.underlying t).map fun u => .bin op t u x y
  | .unOp op _ x => some (.un op x)
  | .convert src dst x => match P.underlying src, P.underlying dst with
    | some (.int _), some (.int k) => some (.toInt k x)
    | some .string, some .string => some (.same x)
    | some .string, some (.slice e) => match P.underlying e with
      | some (.int .u8) => some (.strBytes e x)
      | _ => none
    | some (.slice _), some (.slice e) => match src == dst, P.underlying e with
      | true, some (.int .u8) => some (.markStr x)
      | _, _ => none
    | some (.slice e), some .string => match P.underlying e with
      | some (.int .u8) => some (.bytesStr x)
      | _ => none
    | _, _ => none
  | .makeInterface t x => match P.underlying t with
    | some (.interface _) => none
    | some _ => some (.iface t x)
    | none => none
  | .makeFunc fn first captured => some (.mkfunc fn first.toList captured.toList)
  | .makeMap _ none => some .mkmap
  | .makeMap t (some x) => match P.underlying t with
    | some (.map _ _) => some (.mkmapN x)
    | _ => none
  | .entry x => some (.entry x)
  | .sliceToArrayPointer arr x => match P.underlying arr with
    | some (.array n _) => some (.s2ap n x)
    | _ => none
  | .makeSlice t l c => match P.underlying t with
    | some (.slice e) => match P.info? e with
      | some i => i.zero.map fun z => .mkslice e i.size i.bytes z.cells.toList l c
      | none => none
    | _ => none
  | .slice t x lo hi mx => match P.underlying t with
    | some .string => if mx.isNone then some (.sliceStr x lo hi) else none
    | some (.slice e) => (P.info? e).map fun i => .sliceSl i.size x lo hi mx
    | some (.array n e) => (P.info? e).map fun i => .sliceArr n i.size x lo hi mx
    | some (.pointer arr) => match P.underlying arr with
      | some (.array n e) => (P.info? e).map fun i => .sliceArr n i.size x lo hi mx
      | _ => none
    | _ => none
  | .fieldAddr s x f => match P.underlying s with
    | some (.struct fields) => match fields[f]? with
      | some fl => match P.info? fl.type with
        | some i => if i.size ≠ 0 then some (.addOff fl.offset x) else none
        | none => none
      | none => none
    | _ => none
  | .field t x f => match P.underlying t with
    | some (.struct fields) => match fields[f]? with
      | some fl => (aggSize P fl.type).map fun n => .part fl.offset n x
      | none => none
    | _ => none
  | .indexAddr t x i => match P.underlying t with
    | some (.slice e) => (P.info? e).map fun inf => .idxS inf.size x i
    | some (.array n e) => (P.info? e).map fun inf => .idxA n inf.size x i
    | _ => none
  | .index t x i => match P.underlying t with
    | some .string => some (.strAt x i)
    | some (.array n e) => match P.info? e, aggSize P e with
      | some inf, some a => some (.arrAt n inf.size a.isSome x i)
      | _, _ => none
    | _ => none
  | .lookup t m k ok => match P.underlying t with
    | some (.map kt e) => match P.underlying kt, P.info? e with
      | some u, some i => i.zero.map fun z => .look u z m k ok
      | _, _ => none
    | _ => none
  | .mapUpdate t m k x | .insert t m k x => match P.underlying t with
    | some (.map kt _) => (P.underlying kt).map fun u => .mput u m k x
    | _ => none
  | .range t x => match P.underlying t with
    | some .string => some (.rangeStr x)
    | some (.map _ _) => some (.rangeMap x)
    | _ => none
  | .next x str => some (.next x str)
  | .typeAssert x _ a ok => match P.underlying a, P.info? a with
    | some (.interface _), _ => none
    | some _, some i => i.zero.map fun z => .assert a z ok x
    | _, _ => none
  | .extract x i => some (.ext x i)
  | .call c => rcall P c type
  | .panic x => some (.pan x)
  | _ => none

def roper (P : Program) (ops : Array Oper) (o : Oper) : Option ROper :=
  match rop P o.type o.op with
  | none => none
  | some r => match o.guard with
    | none => some ⟨o.dst, r, none⟩
    | some (j, b) => match (ops[j]?).bind (·.dst) with
      | some t => some ⟨o.dst, r, some (t, b)⟩
      | none => none
def ropers (P : Program) (ops : Array Oper) : List Oper → Option (List ROper)
  | [] => some []
  | o :: r => match roper P ops o, ropers P ops r with
    | some x, some xs => some (x :: xs)
    | _, _ => none

/-- What stands ahead of each operation, as bits. -/
def befs : List Oper → List Nat → List Nat
  | [], acc => acc
  | o :: r, acc => befs r (acc ++ [o.after.toList.foldl (fun s e => if Region.binds .any e then s ||| 2 ^ e.on ||| acc.getD e.on 0 else s) 0])

def isLight (o : ROper) : Bool := isPure o.op || isRead o.op || isAlloc o.op

/-- A plan: light operations as soon as they may. -/
def planGo (ops : List ROper) (bef : List Nat) : Nat → Nat → List Nat
  | 0, _ => []
  | f + 1, done =>
    let ready := (List.range ops.length).filter fun i => !done.testBit i && ((bef.getD i 0) &&& done == bef.getD i 0)
    match ready.find? (fun i => ((ops[i]?).map isLight).getD false) with
    | some i => i :: planGo ops bef f (done ||| 2 ^ i)
    | none => match ready with
      | i :: _ => i :: planGo ops bef f (done ||| 2 ^ i)
      | [] => []

/-- What an operation names. -/
def opnds : ROp → List Operand
  | .mov x | .box _ _ x | .load1 x | .loadN _ x | .nilCheck x | .un _ x | .toInt _ x | .same x | .strBytes _ x | .bytesStr x | .iface _ x | .addOff _ x | .part _ _ x | .rangeStr x | .rangeMap x | .next x _ | .assert _ _ _ x | .ext x _
  | .len _ x | .cap x | .pan x | .markStr x | .clear _ _ x | .mkmapN x | .entry x | .s2ap _ x => [x]
  | .pick c a b => [c, a, b]
  | .new .. | .mkmap => []
  | .build _ ps | .buildSlice _ _ _ _ ps => ps.map (·.2.2)
  | .store _ a x | .bin _ _ _ a x | .mkslice _ _ _ _ a x | .idxS _ a x | .idxA _ _ a x | .strAt a x | .arrAt _ _ _ a x | .look _ _ a x _ | .xbyte a x | .append _ _ _ _ a x | .appendZ _ _ _ _ a x | .copy _ a x | .min2 a x | .max2 a x | .delete _ a x => [a, x]
  | .mkfunc _ f c => f ++ c
  | .sliceStr x l h => [x] ++ l.toList ++ h.toList
  | .sliceSl _ x l h m | .sliceArr _ _ x l h m => [x] ++ l.toList ++ h.toList ++ m.toList
  | .mput _ m k x => [m, k, x]
  | .call _ args => args
  | .callv f args | .callm f _ args => f :: args
def slotOf : Operand → Option Nat
  | .tmp t => some t
  | _ => none
/-- The slots that an operation reads. -/
def names (o : ROper) : List Nat := (opnds o.op).filterMap slotOf ++ (match o.guard with | some (t, _) => [t] | none => [])

def maskOf (f : Nat → Bool) : Nat → Nat
  | 0 => 0
  | n + 1 => maskOf f n ||| (if f n then 2 ^ n else 0)
def lightAt (rs : List ROper) (i : Nat) : Bool := ((rs[i]?).map isLight).getD true
/-- Is a plan sound? -/
def chk (rs : List ROper) (bef : List Nat) (n hv : Nat) : List Nat → Nat → Bool
  | [], done => done == maskOf (fun _ => true) n
  | i :: rest, done => decide (i < n) && !done.testBit i && ((bef.getD i 0) &&& done == bef.getD i 0) &&
      (lightAt rs i || (((bef.getD i 0) &&& (hv &&& done) == hv &&& done) && (List.range n).all fun l => !lightAt rs l || done.testBit l || ((bef.getD l 0) &&& hv) &&& done != (bef.getD l 0) &&& hv)) &&
      chk rs bef n hv rest (done ||| 2 ^ i)
/-- Is each slot written once, and read in a settled order? -/
def slotsOk (rs : List ROper) (bef : List Nat) : Bool :=
  let xs := rs.zipIdx
  xs.all fun (a, i) => match a.dst with
    | none => true
    | some t => xs.all fun (b, j) => i == j || (b.dst != some t && (!(names b).contains t || (bef.getD j 0).testBit i || (bef.getD i 0).testBit j))
def planOk (rs : List ROper) (bef plan : List Nat) : Bool :=
  chk rs bef rs.length (maskOf (fun i => !lightAt rs i) rs.length) plan 0 && slotsOk rs bef && (List.range rs.length).all fun i => decide (bef.getD i 0 < 2 ^ i)

def rcode (P : Program) : Code → Option RCode
  | .skip => some .skip
  | .region _ ops false => (ropers P ops ops.toList).map .region
  | .region _ ops true => match ropers P ops ops.toList with
    | some rs => if P.follows .mixedOrders && planOk rs (befs ops.toList []) (planGo rs (befs ops.toList []) rs.length 0) then some (.draw rs (befs ops.toList []) (planGo rs (befs ops.toList []) rs.length 0)) else none
    | none => none
  | .seq a b => match rcode P a, rcode P b with
    | some x, some y => some (.seq x y)
    | _, _ => none
  | .cond c a b => match rcode P a, rcode P b with
    | some x, some y => some (.cond c x y)
    | _, _ => none
  | .block id a => (rcode P a).map (.block id)
  | .loop a => (rcode P a).map .loop
  | .rangeFunc f ps a b => match rcode P a, rcode P b with
    | some x, some y => some (.rangeFunc f ps.toList x y)
    | _, _ => none
  | .exit id => some (.exit id)
  | .ret => some .ret
  | _ => none

def rres (P : Program) : ResultVar → Option RRes
  | .tmp t => some (.tmp t)
  | .cell a t => (aggSize P t).map fun | none => .cell1 a | some n => .cellN a n
def rress (P : Program) : List ResultVar → Option (List RRes)
  | [] => some []
  | r :: rs => match rres P r, rress P rs with
    | some x, some xs => some (x :: xs)
    | _, _ => none

def rfun (P : Program) (f : FuncId) : Option RFunc :=
  match P.funcs[f]? with
  | some fn => if fn.name == "runtime.NumGoroutine" then none else match fn.body with
    | some c => match rcode P c, rress P fn.results.toList with
      | some b, some rs => some ⟨fn.ntmps, rs, b⟩
      | _, _ => none
    | none => none
  | none => none

/-- The method of a value in an interface. -/
def rmeth (P : Program) (t : TypeId) (name : String) : Option FuncId :=
  match P.info? t with
  | some i => match i.methods.find? (·.name == name) with
    | some m => if m.path.isEmpty then match m.func, P.underlying t with
      | some (f, true), some (.pointer _) => some f
      | some (_, false), some (.pointer _) => none
      | some (_, true), _ => none
      | some (f, false), some _ => some f
      | _, _ => none
      else none
    | none => none
  | none => none

def tab (P : Program) : Tab := ⟨fun f => (rfun P f).map .code, rmeth P⟩

end Go.E

namespace Go.E

abbrev Bt := Nat → Option Pl
def Bt.le (β β' : Bt) : Prop := ∀ i p, β i = some p → β' i = some p
theorem Bt.le_refl (β : Bt) : β.le β := fun _ _ h => h
theorem Bt.le_trans {a b c : Bt} (h : a.le b) (k : b.le c) : a.le c := fun i p x => k i p (h i p x)
def Bt.upd (β : Bt) (i : Nat) (p : Pl) : Bt := fun j => if j = i then some p else β j
theorem Bt.le_upd {β : Bt} {i : Nat} (p : Pl) (h : β i = none) : β.le (β.upd i p) := fun j q hq => by
  unfold Bt.upd; split
  · rename_i e; subst e; rw [h] at hq; cases hq
  · exact hq
theorem Bt.upd_at (β : Bt) (i : Nat) (p : Pl) : β.upd i p i = some p := by simp [Bt.upd]

/-- A logical value and a real one. -/
inductive VRel (β : Bt) : Value → Value → Prop
  | bool (b : Bool) : VRel β (.bool b) (.bool b)
  | int (k : IntKind) (n : Int) : VRel β (.int k n) (.int k n)
  | float (k : FloatKind) (n : Nat) : VRel β (.float k n) (.float k n)
  | complex (k : FloatKind) (n m : Nat) : VRel β (.complex k n m) (.complex k n m)
  | string (s : ByteArray) : VRel β (.string s) (.string s)
  | ptrN : VRel β (.pointer none) (.pointer none)
  | ptr {i : Nat} {p : Pl} (off : Nat) (h : β i = some p) : VRel β (.pointer (some ⟨i, off, none⟩)) (.pointer (some ⟨p.rb, p.base + off, none⟩))
  | slN : VRel β (.slice none 0 0) (.slice none 0 0)
  | sl {i off len ac ro rc : Nat} {p : Pl} (h : β i = some p) (h1 : len ≤ ac) (h2 : ac ≤ rc) (h3 : rc = 0 ∨ ro = p.base + off) (h4 : p.ex = true → rc = ac)
      (h5 : p.ex = false → ro + rc * p.e ≤ p.sz) : VRel β (.slice (some ⟨i, off, none⟩) len ac) (.slice (some ⟨p.rb, ro, none⟩) len rc)
  | slE (i off : Nat) (a : Addr) : VRel β (.slice (some ⟨i, off, some 0⟩) 0 0) (.slice (some a) 0 0)
  | mapN : VRel β (.map none) (.map none)
  | map {i : Nat} {p : Pl} (h : β i = some p) : VRel β (.map (some i)) (.map (some p.rb))
  | fn {f : FuncId} {a a' c c' : Array Value} (ha : a.size = a'.size) (he : ∀ (i : Nat) (v v' : Value), a[i]? = some v → a'[i]? = some v' → VRel β v v')
      (hc : c.size = c'.size) (hd : ∀ (i : Nat) (v v' : Value), c[i]? = some v → c'[i]? = some v' → VRel β v v') : VRel β (.func (.func f) a c) (.func (.func f) a' c')
  | yield {l : Nat} {p : Pl} (h : β l = some p) : VRel β (.func (.yield l) #[] #[]) (.func (.yield p.rb) #[] #[])
  | nilF : VRel β .nilFunc .nilFunc
  | nilI : VRel β .nilIface .nilIface
  | iface {t : TypeId} {v v' : Value} (h : VRel β v v') : VRel β (.iface t v) (.iface t v')
  | agg {a a' : Array Value} (ha : a.size = a'.size) (he : ∀ (i : Nat) (v v' : Value), a[i]? = some v → a'[i]? = some v' → VRel β v v') : VRel β (.agg a) (.agg a')
  | tuple {a a' : Array Value} (ha : a.size = a'.size) (he : ∀ (i : Nat) (v v' : Value), a[i]? = some v → a'[i]? = some v' → VRel β v v') : VRel β (.tuple a) (.tuple a')

theorem VRel.mono {β β' : Bt} (hb : β.le β') {v v' : Value} (h : VRel β v v') : VRel β' v v' := by
  induction h with
  | bool b => exact .bool b
  | int k n => exact .int k n
  | float k n => exact .float k n
  | complex k n m => exact .complex k n m
  | string s => exact .string s
  | ptrN => exact .ptrN
  | ptr off h => exact .ptr off (hb _ _ h)
  | slN => exact .slN
  | sl h h1 h2 h3 h4 h5 => exact .sl (hb _ _ h) h1 h2 h3 h4 h5
  | slE i off a => exact .slE i off a
  | mapN => exact .mapN
  | map h => exact .map (hb _ _ h)
  | fn ha _ hc _ ih1 ih2 => exact .fn ha ih1 hc ih2
  | yield h => exact .yield (hb _ _ h)
  | nilF => exact .nilF
  | nilI => exact .nilI
  | iface _ ih => exact .iface ih
  | agg ha _ ih => exact .agg ha ih
  | tuple ha _ ih => exact .tuple ha ih

/-- Lists of values, element by element. -/
def LRel (β : Bt) (l l' : List Value) : Prop := l.length = l'.length ∧ ∀ (i : Nat) (v v' : Value), l[i]? = some v → l'[i]? = some v' → VRel β v v'
theorem LRel.mono {β β' : Bt} (hb : β.le β') {l l' : List Value} (h : LRel β l l') : LRel β' l l' := ⟨h.1, fun i v v' a b => (h.2 i v v' a b).mono hb⟩
theorem LRel.nil (β : Bt) : LRel β [] [] := ⟨rfl, fun i v v' h => by simp at h⟩
theorem LRel.cons {β : Bt} {v v' : Value} {l l' : List Value} (h : VRel β v v') (k : LRel β l l') : LRel β (v :: l) (v' :: l') := by
  refine ⟨by simp [k.1], fun i u u' a b => ?_⟩
  cases i with
  | zero => simp at a b; subst a; subst b; exact h
  | succ i => simp at a b; exact k.2 i u u' a b
theorem LRel.append {β : Bt} {l l' m m' : List Value} (h : LRel β l l') (k : LRel β m m') : LRel β (l ++ m) (l' ++ m') := by
  refine ⟨by simp [h.1, k.1], fun i v v' a b => ?_⟩
  by_cases hi : i < l.length
  · rw [List.getElem?_append_left hi] at a; rw [List.getElem?_append_left (by rw [← h.1]; exact hi)] at b; exact h.2 i v v' a b
  · rw [List.getElem?_append_right (by omega)] at a; rw [List.getElem?_append_right (by rw [← h.1]; omega), ← h.1] at b; exact k.2 _ v v' a b
theorem LRel.take {β : Bt} {l l' : List Value} (h : LRel β l l') (n : Nat) : LRel β (l.take n) (l'.take n) := by
  refine ⟨by simp [h.1], fun i v v' a b => ?_⟩
  rw [List.getElem?_take] at a b
  split at a <;> rename_i hi
  · rw [if_pos hi] at b; exact h.2 i v v' a b
  · cases a
theorem LRel.drop {β : Bt} {l l' : List Value} (h : LRel β l l') (n : Nat) : LRel β (l.drop n) (l'.drop n) := by
  refine ⟨by simp [h.1], fun i v v' a b => ?_⟩
  rw [List.getElem?_drop] at a b
  exact h.2 _ v v' a b
theorem LRel.get {β : Bt} {l l' : List Value} (h : LRel β l l') {i : Nat} {v : Value} (hv : l[i]? = some v) : ∃ v', l'[i]? = some v' ∧ VRel β v v' := by
  have hi : i < l'.length := by rw [← h.1]; exact (List.getElem?_eq_some_iff.1 hv).1
  exact ⟨l'[i], List.getElem?_eq_getElem hi, h.2 i v _ hv (List.getElem?_eq_getElem hi)⟩
theorem LRel.agg {β : Bt} {l l' : List Value} (h : LRel β l l') : VRel β (.agg l.toArray) (.agg l'.toArray) := .agg (by simp [h.1]) (fun i v v' a b => h.2 i v v' (by simpa using a) (by simpa using b))
theorem LRel.tuple {β : Bt} {l l' : List Value} (h : LRel β l l') : VRel β (.tuple l.toArray) (.tuple l'.toArray) := .tuple (by simp [h.1]) (fun i v v' a b => h.2 i v v' (by simpa using a) (by simpa using b))
theorem VRel.aggList {β : Bt} {a : Array Value} {v' : Value} (h : VRel β (.agg a) v') : ∃ a', v' = .agg a' ∧ LRel β a.toList a'.toList := by
  cases h with
  | agg ha he => exact ⟨_, rfl, by simpa using ha, fun i v v' x y => he i v v' (by simpa using x) (by simpa using y)⟩
theorem VRel.tupleList {β : Bt} {a : Array Value} {v' : Value} (h : VRel β (.tuple a) v') : ∃ a', v' = .tuple a' ∧ LRel β a.toList a'.toList := by
  cases h with
  | tuple ha he => exact ⟨_, rfl, by simpa using ha, fun i v v' x y => he i v v' (by simpa using x) (by simpa using y)⟩

theorem clo1_rel (β : Bt) {v : Value} (h : clo1 v = true) : VRel β v v := by
  unfold clo1 at h
  split at h <;> first | (constructor; done) | cases h
theorem clo_rel (β : Bt) {v : Value} (h : clo v = true) : VRel β v v := by
  unfold clo at h
  split at h
  · rename_i cs
    rw [List.all_eq_true] at h
    refine .agg rfl fun i v v' a b => ?_
    rw [a] at b; cases b
    exact clo1_rel β (h v (by rw [Array.mem_toList_iff]; exact Array.mem_of_getElem? a))
  · exact clo1_rel β h
theorem clo1s_rel (β : Bt) {l : List Value} (h : l.all clo1 = true) : LRel β l l := by
  rw [List.all_eq_true] at h
  refine ⟨rfl, fun i v v' a b => ?_⟩
  rw [a] at b; cases b
  exact clo1_rel β (h v (List.mem_of_getElem? a))
theorem isCell_rel {β : Bt} {v v' : Value} (h : VRel β v v') : isCell v' = isCell v := by cases h <;> rfl
theorem cells_rel {β : Bt} {v v' : Value} (h : VRel β v v') : LRel β v.cells.toList v'.cells.toList := by
  cases h <;> first
    | (exact LRel.cons (by constructor <;> assumption) (LRel.nil β))
    | (refine ⟨by simpa [Value.cells] using ‹_›, fun i v v' x y => ?_⟩; rename_i he; exact he i v v' (by simpa [Value.cells] using x) (by simpa [Value.cells] using y))
    | (refine LRel.cons ?_ (LRel.nil β); exact .iface ‹_›)
theorem undef_rel (β : Bt) : VRel β undef undef := .tuple rfl (fun i v v' h => by simp at h)

theorem VRel.invFn {β : Bt} {f : FuncId} {a c : Array Value} {v' : Value} (h : VRel β (.func (.func f) a c) v') : ∃ a' c', v' = .func (.func f) a' c' ∧ LRel β a.toList a'.toList ∧ LRel β c.toList c'.toList := by
  cases h with
  | fn ha he hc hd => exact ⟨_, _, rfl, ⟨by simpa using ha, fun i v v' x y => he i v v' (by simpa using x) (by simpa using y)⟩, ⟨by simpa using hc, fun i v v' x y => hd i v v' (by simpa using x) (by simpa using y)⟩⟩
theorem VRel.invYield {β : Bt} {l : Nat} {v' : Value} (h : VRel β (.func (.yield l) #[] #[]) v') : ∃ p, β l = some p ∧ v' = .func (.yield p.rb) #[] #[] := by
  cases h with
  | yield hb => exact ⟨_, hb, rfl⟩
theorem VRel.invIface {β : Bt} {t : TypeId} {v v' : Value} (h : VRel β (.iface t v) v') : ∃ u, v' = .iface t u ∧ VRel β v u := by
  cases h with
  | iface h => exact ⟨_, rfl, h⟩
theorem VRel.invPtr {β : Bt} {i off : Nat} {v' : Value} (h : VRel β (.pointer (some ⟨i, off, none⟩)) v') : ∃ p, β i = some p ∧ v' = .pointer (some ⟨p.rb, p.base + off, none⟩) := by
  cases h with
  | ptr _ hb => exact ⟨_, hb, rfl⟩
theorem VRel.invSl {β : Bt} {i off len ac : Nat} {v' : Value} (h : VRel β (.slice (some ⟨i, off, none⟩) len ac) v') : ∃ p ro rc, β i = some p ∧ v' = .slice (some ⟨p.rb, ro, none⟩) len rc ∧ len ≤ ac ∧ ac ≤ rc ∧
    (rc = 0 ∨ ro = p.base + off) ∧ (p.ex = true → rc = ac) ∧ (p.ex = false → ro + rc * p.e ≤ p.sz) := by
  cases h with
  | sl hb h1 h2 h3 h4 h5 => exact ⟨_, _, _, hb, rfl, h1, h2, h3, h4, h5⟩
theorem VRel.invMap {β : Bt} {i : Nat} {v' : Value} (h : VRel β (.map (some i)) v') : ∃ p, β i = some p ∧ v' = .map (some p.rb) := by
  cases h with
  | map hb => exact ⟨_, hb, rfl⟩
theorem VRel.invInt {β : Bt} {k : IntKind} {n : Int} {v' : Value} (h : VRel β (.int k n) v') : v' = .int k n := by cases h; rfl
theorem VRel.invBool {β : Bt} {b : Bool} {v' : Value} (h : VRel β (.bool b) v') : v' = .bool b := by cases h; rfl
theorem VRel.invStr {β : Bt} {s : ByteArray} {v' : Value} (h : VRel β (.string s) v') : v' = .string s := by cases h; rfl
theorem VRel.invSlN {β : Bt} {n m : Nat} {v' : Value} (h : VRel β (.slice none n m) v') : v' = .slice none 0 0 ∧ n = 0 ∧ m = 0 := by cases h; exact ⟨rfl, rfl, rfl⟩
theorem VRel.invMapN {β : Bt} {v' : Value} (h : VRel β (.map none) v') : v' = .map none := by cases h; rfl

end Go.E

namespace Go.E

def EnvRel (β : Bt) (env : Env) (tmps : Array Value) : Prop :=
  env.length = tmps.size ∧ ∀ (t : Nat) (v v' : Value), env[t]? = some (some v) → tmps[t]? = some v' → VRel β v v'
theorem EnvRel.mono {β β' : Bt} (hb : β.le β') {env : Env} {tmps : Array Value} (h : EnvRel β env tmps) : EnvRel β' env tmps := ⟨h.1, fun t v v' a b => (h.2 t v v' a b).mono hb⟩
theorem EnvRel.get {β : Bt} {env : Env} {tmps : Array Value} (h : EnvRel β env tmps) {t : Nat} {v : Value} (hv : (env[t]?).join = some v) :
    ∃ v', tmps[t]? = some v' ∧ VRel β v v' := by
  have h1 : env[t]? = some (some v) := by
    cases hx : env[t]? with
    | none => rw [hx] at hv; cases hv
    | some o => rw [hx] at hv; simp at hv; rw [hv]
  have ht : t < tmps.size := by rw [← h.1]; exact (List.getElem?_eq_some_iff.1 h1).1
  exact ⟨tmps[t], Array.getElem?_eq_getElem ht, h.2 t v _ h1 (Array.getElem?_eq_getElem ht)⟩
theorem EnvRel.put {β : Bt} {env : Env} {tmps : Array Value} (h : EnvRel β env tmps) (d : Option Nat) {v v' : Value} (hv : VRel β v v') :
    EnvRel β (env.put d (some v)) (match d with | some t => tmps.setIfInBounds t v' | none => tmps) := by
  cases d with
  | none => exact h
  | some t =>
    refine ⟨by simp [Env.put, h.1], fun s u u' a b => ?_⟩
    simp only [Env.put, List.getElem?_set] at a
    simp only [Array.getElem?_setIfInBounds] at b
    by_cases e : t = s
    · subst e
      simp only [if_true] at a b
      split at a
      · split at b
        · cases a; cases b; exact hv
        · cases b
      · cases a
    · simp only [e, if_false] at a b
      exact h.2 s u u' a b

theorem opv_rel {β : Bt} {env : Env} {a : Act} (h : EnvRel β env a.tmps) {x : Operand} {v : Value} (hv : opv env x = some v) : VRel β v (a.eval x) := by
  cases x with
  | tmp t =>
    obtain ⟨v', h1, h2⟩ := h.get (t := t) hv
    simp only [Act.eval, Array.getD_eq_getD_getElem?, h1, Option.getD_some]
    exact h2
  | const c =>
    simp only [opv] at hv
    split at hv
    · cases hv; exact clo_rel β ‹_›
    · cases hv
  | func f => simp only [opv] at hv; cases hv; exact .fn rfl (fun i v v' h => by simp at h) rfl (fun i v v' h => by simp at h)
  | global g => simp [opv] at hv
theorem opvs_rel {β : Bt} {env : Env} {a : Act} (h : EnvRel β env a.tmps) : ∀ {xs : List Operand} {vs : List Value}, opvs env xs = some vs → LRel β vs (xs.map a.eval)
  | [], vs, hv => by simp [opvs] at hv; subst hv; exact LRel.nil β
  | x :: r, vs, hv => by
    simp only [opvs] at hv
    split at hv
    · rename_i v us h1 h2
      cases hv
      exact LRel.cons (opv_rel h h1) (opvs_rel h h2)
    · cases hv

/-- The jump of an exit. -/
def exCode : RExit → Code
  | .ret => .ret
  | .exit id => .exit id
  | _ => .skip

/-- A logical block and a real one. -/
def ORel (P : Program) (β : Bt) (p : Pl) : AObj → Obj → Prop
  | .cells c t e ex r, o => ∃ rc fr, o = .cells rc t fr ∧ p.e = e ∧ p.ex = ex ∧ p.ro = r ∧ rc.size = p.sz ∧ p.base + c.length ≤ p.sz ∧
      (∀ (j : Nat) (v v' : Value), c[j]? = some v → rc[p.base + j]? = some v' → VRel β v v') ∧ (r = false → fr.1 = fr.2 ∨ rc.size ≤ fr.1)
  | .map es clk, o => p.ro = false ∧ ∃ res, o = .map res clk ∧ res.size = es.length ∧
      ∀ (j : Nat) (e : Value × Value × Nat) (r : MapEntry), es[j]? = some e → res[j]? = some r → VRel β e.1 r.key ∧ VRel β e.2.1 r.val ∧ r.born = e.2.2
  | .miter m since seen stepped, o => p.ro = false ∧ p.base = 0 ∧ ∃ m', o = .mapIter m' since seen.toArray stepped ∧ (match m with | none => m' = none | some i => ∃ q, β i = some q ∧ m' = some q.rb)
  | .iter s pos, o => p.ro = false ∧ p.base = 0 ∧ o = .stringIter s pos
  | .deferred, o => p.ro = false ∧ o = .deferred (some [])
  | .loop env ps a b st pend d, o => p.ro = false ∧ ∃ (lr : Loop) (q : Pl), o = .loop lr ∧ EnvRel β env lr.tmps ∧ lr.params = ps.toArray ∧ rcode P lr.assign = some a ∧ rcode P lr.body = some b ∧
      lr.state = st ∧ lr.pending = pend.map exCode ∧ β d = some q ∧ lr.defers = q.rb

theorem ORel.mono {P : Program} {β β' : Bt} (hb : β.le β') {p : Pl} {o : AObj} {ro : Obj} (h : ORel P β p o ro) : ORel P β' p o ro := by
  cases o with
  | cells c t e ex r =>
    obtain ⟨rc, fr, h1, h2, h3, h4, h5, h6, h7, h8⟩ := h
    exact ⟨rc, fr, h1, h2, h3, h4, h5, h6, fun j v v' a b => (h7 j v v' a b).mono hb, h8⟩
  | map es clk =>
    obtain ⟨h0, res, h1, h2, h3⟩ := h
    exact ⟨h0, res, h1, h2, fun j e r a b => ⟨(h3 j e r a b).1.mono hb, (h3 j e r a b).2.1.mono hb, (h3 j e r a b).2.2⟩⟩
  | miter m since seen stepped =>
    obtain ⟨h0, hz, m', h1, h2⟩ := h
    refine ⟨h0, hz, m', h1, ?_⟩
    cases m with
    | none => exact h2
    | some i => obtain ⟨q, h3, h4⟩ := h2; exact ⟨q, hb _ _ h3, h4⟩
  | iter s pos => exact h
  | deferred => exact h
  | loop env ps a b st pend d =>
    obtain ⟨h0, lr, q, h1, h2, h3, h4, h5, h6, h7, h8, h9⟩ := h
    exact ⟨h0, lr, q, h1, h2.mono hb, h3, h4, h5, h6, h7, hb _ _ h8, h9⟩

/-- The streams are as they were. -/
structure Same (w0 w : World) : Prop where
  os : w.os = w0.os
  tape : w.tape = w0.tape
  output : w.output = w0.output
  size : w0.heap.size ≤ w.heap.size

/-- What is held aside: blocks that stay as they are; numbers that are kept. -/
structure Fr where
  fz : Nat → Option Obj
  rz : Nat → Prop

structure Rel (P : Program) (Fz : Fr) (w0 : World) (β : Bt) (H : AHeap) (w : World) : Prop where
  dom : ∀ i p, β i = some p → i < H.next
  live : ∀ i o, H.get i = some o → ∃ p ro, β i = some p ∧ w.heap[p.rb]? = some ro ∧ ORel P β p o ro
  sep : ∀ i j oi oj p q, i ≠ j → H.get i = some oi → H.get j = some oj → β i = some p → β j = some q → p.ro = false → p.rb ≠ q.rb
  fz : ∀ r o, Fz.fz r = some o → w.heap[r]? = some o
  fzsep : ∀ i o p, H.get i = some o → β i = some p → p.ro = false → Fz.fz p.rb = none
  rz : ∀ i, Fz.rz i → i < H.next ∧ β i = none
  old : ∀ i o p, H.get i = some o → β i = some p → p.ro = true → p.rb < w0.heap.size
  same : Same w0 w

section
variable {P : Program} {Fz : Fr} {w0 : World} {β : Bt} {H : AHeap} {w : World}

theorem Rel.congr (h : Rel P Fz w0 β H w) {H' : AHeap} (hg : ∀ i, H'.get i = H.get i) (hn : H'.next = H.next) : Rel P Fz w0 β H' w :=
  ⟨fun i p hi => by rw [hn]; exact h.dom i p hi, fun i o hi => h.live i o (by rw [← hg]; exact hi), fun i j oi oj p q hne hi hj => h.sep i j oi oj p q hne (by rw [← hg]; exact hi) (by rw [← hg]; exact hj), h.fz,
    fun i o p hi => h.fzsep i o p (by rw [← hg]; exact hi), fun i hi => by rw [hn]; exact h.rz i hi, fun i o p hi => h.old i o p (by rw [← hg]; exact hi), h.same⟩

theorem Rel.drew (h : Rel P Fz w0 β H w) (d : Nat) : Rel P Fz w0 β H { w with drawn := d } :=
  ⟨h.dom, h.live, h.sep, h.fz, h.fzsep, h.rz, h.old, ⟨h.same.os, h.same.tape, h.same.output, h.same.size⟩⟩

theorem Rel.nextNone (h : Rel P Fz w0 β H w) : β H.next = none := by
  cases hx : β H.next with
  | none => rfl
  | some p => have := h.dom _ _ hx; omega

theorem Rel.alloc (h : Rel P Fz w0 β H w) {p : Pl} {o : AObj} {ro : Obj} (hp : p.rb = w.heap.size) (hro : p.ro = false)
    (ho : ORel P (β.upd H.next p) p o ro) : Rel P Fz w0 (β.upd H.next p) (H.alloc o) { w with heap := w.heap.push ro } := by
  have hn := h.nextNone
  have hle := Bt.le_upd p hn
  refine ⟨fun i q hq => ?_, fun i o' ho' => ?_, fun i j oi oj q q' hij hi hj hq hq' hr => ?_, fun r o' hr => ?_, fun i o' q hi hq hr => ?_, fun i hi => ?_, fun i o' q hi hq hr => ?_, ?_⟩
  · rw [AHeap.next_alloc]
    unfold Bt.upd at hq; split at hq
    · omega
    · have := h.dom _ _ hq; omega
  · rw [AHeap.get_alloc] at ho'
    split at ho'
    · rename_i e; subst e; cases ho'
      exact ⟨p, ro, Bt.upd_at _ _ _, by rw [hp]; simp, ho⟩
    · obtain ⟨q, r, h1, h2, h3⟩ := h.live i o' ho'
      refine ⟨q, r, hle _ _ h1, ?_, h3.mono hle⟩
      have hlt := (Array.getElem?_eq_some_iff.1 h2).1
      rw [Array.getElem?_push, if_neg (by omega)]; exact h2
  · rw [AHeap.get_alloc] at hi hj
    unfold Bt.upd at hq hq'
    by_cases ei : i = H.next
    · rw [if_pos ei] at hq; cases hq
      rw [if_neg (by omega)] at hj hq'
      obtain ⟨q2, r, h1, h2, _⟩ := h.live j oj hj
      rw [hq'] at h1; cases h1
      have hlt := (Array.getElem?_eq_some_iff.1 h2).1
      omega
    · rw [if_neg ei] at hi hq
      by_cases ej : j = H.next
      · rw [if_pos ej] at hq'; cases hq'
        obtain ⟨q2, r, h1, h2, _⟩ := h.live i oi hi
        rw [hq] at h1; cases h1
        have hlt := (Array.getElem?_eq_some_iff.1 h2).1
        omega
      · rw [if_neg ej] at hj hq'
        exact h.sep i j oi oj q q' hij hi hj hq hq' hr
  · have h2 := h.fz r o' hr
    have hlt := (Array.getElem?_eq_some_iff.1 h2).1
    simp only [Array.getElem?_push]
    rw [if_neg (by omega)]; exact h2
  · rw [AHeap.get_alloc] at hi
    unfold Bt.upd at hq
    by_cases ei : i = H.next
    · rw [if_pos ei] at hq; cases hq
      cases hx : Fz.fz p.rb with
      | none => rfl
      | some o2 => have := (Array.getElem?_eq_some_iff.1 (h.fz _ _ hx)).1; omega
    · rw [if_neg ei] at hi hq
      exact h.fzsep i o' q hi hq hr
  · obtain ⟨h1, h2⟩ := h.rz i hi
    rw [AHeap.next_alloc]
    exact ⟨by omega, by unfold Bt.upd; rw [if_neg (by omega)]; exact h2⟩
  · rw [AHeap.get_alloc] at hi
    unfold Bt.upd at hq
    by_cases ei : i = H.next
    · rw [if_pos ei] at hq; cases hq; rw [hro] at hr; cases hr
    · rw [if_neg ei] at hi hq
      exact h.old i o' q hi hq hr
  · exact ⟨h.same.os, h.same.tape, h.same.output, by have := h.same.size; simp; omega⟩

/-- A block is laid at a number that was kept for it. -/
theorem Rel.fill (h : Rel P Fz w0 β H w) {i : Nat} {p : Pl} {o : AObj} {ro : Obj} (hd : H.get i = none) (hi : i < H.next) (hp : β i = some p) (hro : w.heap[p.rb]? = some ro)
    (ho : ORel P β p o ro) (hs : ∀ j oj q, H.get j = some oj → β j = some q → p.rb ≠ q.rb) (hz : Fz.fz p.rb = none) (hpr : p.ro = false) : Rel P Fz w0 β (H.set i o) w := by
  refine ⟨fun j q hq => by rw [AHeap.next_set]; exact h.dom j q hq, fun j o' hj => ?_, fun a b oa ob q q' hab ha hb hq hq' hr => ?_, h.fz, fun j o' q hj hq hr => ?_, fun j hj => by rw [AHeap.next_set]; exact h.rz j hj, fun j o' q hj hq hr => ?_, h.same⟩
  · rw [AHeap.get_set] at hj
    split at hj
    · rename_i e; cases hj; rw [← e.1]; exact ⟨p, ro, hp, hro, ho⟩
    · exact h.live j o' hj
  · rw [AHeap.get_set] at ha hb
    by_cases ea : i = a
    · subst ea
      rw [hp] at hq; cases hq
      rw [if_neg (by omega)] at hb
      exact hs b ob q' hb hq'
    · rw [if_neg (by omega)] at ha
      by_cases eb : i = b
      · subst eb
        rw [hp] at hq'; cases hq'
        exact fun e => hs a oa q ha hq e.symm
      · rw [if_neg (by omega)] at hb
        exact h.sep a b oa ob q q' hab ha hb hq hq' hr
  · rw [AHeap.get_set] at hj
    split at hj
    · rename_i e; rw [← e.1, hp] at hq; cases hq; exact hz
    · exact h.fzsep j o' q hj hq hr
  · rw [AHeap.get_set] at hj
    split at hj
    · rename_i e; rw [← e.1, hp] at hq; cases hq; rw [hpr] at hr; cases hr
    · exact h.old j o' q hj hq hr

/-- A block is written. -/
theorem Rel.set (h : Rel P Fz w0 β H w) {i : Nat} {p : Pl} {o0 o : AObj} {ro : Obj} (hi : H.get i = some o0) (hp : β i = some p) (hr : p.ro = false) (ho : ORel P β p o ro) {w' : World}
    (hw : w'.heap = w.heap.setIfInBounds p.rb ro) (h1 : w'.os = w.os) (h2 : w'.tape = w.tape) (h3 : w'.output = w.output) : Rel P Fz w0 β (H.set i o) w' := by
  have hlt : p.rb < w.heap.size := by
    obtain ⟨q, r, a, b, _⟩ := h.live i o0 hi
    rw [hp] at a; cases a
    exact (Array.getElem?_eq_some_iff.1 b).1
  refine ⟨fun j q hq => by rw [AHeap.next_set]; exact h.dom j q hq, fun j o' hj => ?_, fun a b oa ob q q' hab ha hb hq hq' hro => ?_, fun r o' hf => ?_, fun j o' q hj hq hro => ?_, fun j hj => by rw [AHeap.next_set]; exact h.rz j hj, fun j o' q hj hq hro => ?_, ?_⟩
  · rw [AHeap.get_set] at hj
    split at hj
    · rename_i e; cases hj; rw [← e.1]
      exact ⟨p, ro, hp, by rw [hw]; simp [hlt], ho⟩
    · rename_i e
      obtain ⟨q, r, a, b, c⟩ := h.live j o' hj
      refine ⟨q, r, a, ?_, c⟩
      have hne : i ≠ j := fun e2 => e ⟨e2, AHeap.get_lt hi⟩
      have := h.sep i j o0 o' p q hne hi hj hp a hr
      rw [hw, Array.getElem?_setIfInBounds_ne this]; exact b
  · have look : ∀ x ox, (H.set i o).get x = some ox → ∃ ox', H.get x = some ox' := by
      intro x ox hx
      rw [AHeap.get_set] at hx
      split at hx
      · rename_i e; rw [← e.1]; exact ⟨o0, hi⟩
      · exact ⟨ox, hx⟩
    obtain ⟨oa', ha'⟩ := look a oa ha
    obtain ⟨ob', hb'⟩ := look b ob hb
    exact h.sep a b oa' ob' q q' hab ha' hb' hq hq' hro
  · have h2 := h.fz r o' hf
    have hne : p.rb ≠ r := fun e => by have := h.fzsep i o0 p hi hp hr; rw [e, hf] at this; cases this
    rw [hw, Array.getElem?_setIfInBounds_ne hne]; exact h2
  · rw [AHeap.get_set] at hj
    split at hj
    · rename_i e; rw [← e.1] at hq; exact h.fzsep i o0 q hi hq hro
    · exact h.fzsep j o' q hj hq hro
  · rw [AHeap.get_set] at hj
    split at hj
    · rename_i e; rw [← e.1] at hq; exact h.old i o0 q hi hq hro
    · exact h.old j o' q hj hq hro
  · exact ⟨h1.trans h.same.os, h2.trans h.same.tape, h3.trans h.same.output, by rw [hw]; simpa using h.same.size⟩

theorem Rel.kill (h : Rel P Fz w0 β H w) (i : Nat) : Rel P Fz w0 β (H.kill i) w := by
  have look : ∀ x ox, (H.kill i).get x = some ox → H.get x = some ox := by
    intro x ox hx
    rw [AHeap.get_kill] at hx
    split at hx
    · cases hx
    · exact hx
  exact ⟨fun j q hq => by rw [AHeap.next_kill]; exact h.dom j q hq, fun j o hj => h.live j o (look j o hj), fun a b oa ob q q' hab ha hb => h.sep a b oa ob q q' hab (look a oa ha) (look b ob hb),
    h.fz, fun j o q hj => h.fzsep j o q (look j o hj), fun j hj => by rw [AHeap.next_kill]; exact h.rz j hj, fun j o q hj => h.old j o q (look j o hj), h.same⟩

theorem Rel.reserve (h : Rel P Fz w0 β H w) (n : Nat) : Rel P Fz w0 β (H.reserve n) w :=
  ⟨fun j q hq => by rw [AHeap.next_reserve]; have := h.dom j q hq; omega, fun j o hj => h.live j o (by rwa [AHeap.get_reserve] at hj), fun a b oa ob q q' hab ha hb => h.sep a b oa ob q q' hab (by rwa [AHeap.get_reserve] at ha) (by rwa [AHeap.get_reserve] at hb),
    h.fz, fun j o q hj => h.fzsep j o q (by rwa [AHeap.get_reserve] at hj), fun j hj => by rw [AHeap.next_reserve]; have := h.rz j hj; exact ⟨by omega, this.2⟩, fun j o q hj => h.old j o q (by rwa [AHeap.get_reserve] at hj), h.same⟩

/-- A block that was killed, written on: another number takes its place. -/
theorem Rel.again (h : Rel P Fz w0 β H w) {i : Nat} {p p' : Pl} {o0 o : AObj} {ro : Obj} (hi : H.get i = some o0) (hp : β i = some p) (hr : p.ro = false) (hp' : p'.rb = p.rb) (hr' : p'.ro = false)
    (ho : ORel P (β.upd H.next p') p' o ro) {w' : World} (hw : w'.heap = w.heap.setIfInBounds p.rb ro) (h1 : w'.os = w.os) (h2 : w'.tape = w.tape) (h3 : w'.output = w.output) :
    Rel P Fz w0 (β.upd H.next p') ((H.kill i).alloc o) w' := by
  have hn := h.nextNone
  have hle := Bt.le_upd p' hn
  have hlt : p.rb < w.heap.size := by
    obtain ⟨q, r, a, b, _⟩ := h.live i o0 hi
    rw [hp] at a; cases a
    exact (Array.getElem?_eq_some_iff.1 b).1
  have look : ∀ x ox, ((H.kill i).alloc o).get x = some ox → (x = H.next ∧ ox = o) ∨ (x ≠ H.next ∧ x ≠ i ∧ H.get x = some ox) := by
    intro x ox hx
    rw [AHeap.get_alloc, AHeap.next_kill] at hx
    split at hx
    · left; cases hx; exact ⟨‹_›, rfl⟩
    · rw [AHeap.get_kill] at hx
      split at hx
      · cases hx
      · right; exact ⟨‹_›, fun e => ‹¬ i = x› e.symm, hx⟩
  refine ⟨fun j q hq => ?_, fun j o' hj => ?_, fun a b oa ob q q' hab ha hb hq hq' hro => ?_, fun r o' hf => ?_, fun j o' q hj hq hro => ?_, fun j hj => ?_, fun j o' q hj hq hro => ?_, ?_⟩
  · rw [AHeap.next_alloc, AHeap.next_kill]
    unfold Bt.upd at hq; split at hq
    · omega
    · have := h.dom _ _ hq; omega
  · rcases look j o' hj with ⟨e1, e2⟩ | ⟨e1, e2, hj'⟩
    · subst e1; subst e2; exact ⟨p', ro, Bt.upd_at _ _ _, by rw [hw, hp']; simp [hlt], ho⟩
    · obtain ⟨q, r, a, b, c⟩ := h.live j o' hj'
      refine ⟨q, r, hle _ _ a, ?_, c.mono hle⟩
      have := h.sep i j o0 o' p q (fun e => e2 e.symm) hi hj' hp a hr
      rw [hw, Array.getElem?_setIfInBounds_ne this]; exact b
  · unfold Bt.upd at hq hq'
    rcases look a oa ha with ⟨e1, _⟩ | ⟨e1, e2, ha'⟩
    · rcases look b ob hb with ⟨f1, _⟩ | ⟨f1, f2, hb'⟩
      · omega
      · rw [if_pos e1] at hq; rw [if_neg f1] at hq'; cases hq
        rw [hp']; exact h.sep i b o0 ob p q' (fun e => f2 e.symm) hi hb' hp hq' hr
    · rw [if_neg e1] at hq
      rcases look b ob hb with ⟨f1, _⟩ | ⟨f1, f2, hb'⟩
      · rw [if_pos f1] at hq'; cases hq'
        rw [hp']; exact fun e => h.sep i a o0 oa p q (fun e => e2 e.symm) hi ha' hp hq hr e.symm
      · rw [if_neg f1] at hq'
        exact h.sep a b oa ob q q' hab ha' hb' hq hq' hro
  · have h2 := h.fz r o' hf
    have hne : p.rb ≠ r := fun e => by have := h.fzsep i o0 p hi hp hr; rw [e, hf] at this; cases this
    rw [hw, Array.getElem?_setIfInBounds_ne hne]; exact h2
  · unfold Bt.upd at hq
    rcases look j o' hj with ⟨e1, _⟩ | ⟨e1, e2, hj'⟩
    · rw [if_pos e1] at hq; cases hq; rw [hp']; exact h.fzsep i o0 p hi hp hr
    · rw [if_neg e1] at hq; exact h.fzsep j o' q hj' hq hro
  · obtain ⟨h1, h2⟩ := h.rz j hj
    rw [AHeap.next_alloc, AHeap.next_kill]
    exact ⟨by omega, by unfold Bt.upd; rw [if_neg (by omega)]; exact h2⟩
  · unfold Bt.upd at hq
    rcases look j o' hj with ⟨e1, _⟩ | ⟨e1, e2, hj'⟩
    · rw [if_pos e1] at hq; cases hq; rw [hr'] at hro; cases hro
    · rw [if_neg e1] at hq; exact h.old j o' q hj' hq hro
  · exact ⟨h1.trans h.same.os, h2.trans h.same.tape, h3.trans h.same.output, by rw [hw]; simpa using h.same.size⟩

end
end Go.E

namespace Go.E
section
variable {P : Program} {Fz : Fr} {w0 : World} {β : Bt} {H : AHeap} {w : World}

/-- What an operation comes to, logically and really. -/
def RRel (P : Program) (Fz : Fr) (w0 : World) (β : Bt) (w : World) (H' : AHeap) : Res → Result Next → Prop
  | .val v, r => ∃ v' w' β', r = .ok (.value v') w' ∧ β.le β' ∧ VRel β' v v' ∧ Rel P Fz w0 β' H' w'
  | .skip, r => ∃ w' β', r = .ok .skip w' ∧ β.le β' ∧ Rel P Fz w0 β' H' w'
  | .enter f args, r => ∃ args', r = (callFunc f args').run P w ∧ LRel β args args'.toList ∧ Rel P Fz w0 β H' w
  | .round l args, r => ∃ p args', β l = some p ∧ LRel β args args'.toList ∧ r = (Go.Instr.yield p.rb args').run P w ∧ Rel P Fz w0 β H' w
  | .pan v, r => ∃ v', r = .halt (.panic v') w ∧ VRel β v v' ∧ Rel P Fz w0 β H' w
theorem RRel.pure {P : Program} {Fz : Fr} {w0 w : World} {β : Bt} {H : AHeap} {v v' : Value} {r : Result Next} (h : Rel P Fz w0 β H w) (hv : VRel β v v') (hr : r = .ok (.value v') w) :
    RRel P Fz w0 β w H (.val v) r := ⟨v', w, β, hr, Bt.le_refl β, hv, h⟩

theorem run_und {t : TypeId} {d : TypeDesc} (h : P.underlying t = some d) : (underlying t).run P w = .ok d w := by simp [underlying, h]
theorem run_info {t : TypeId} {i : TypeInfo} (h : P.info? t = some i) : (typeInfo t).run P w = .ok i w := by simp [typeInfo, h]
theorem run_size {t : TypeId} {i : TypeInfo} (h : P.info? t = some i) : (sizeOf t).run P w = .ok i.size w := by simp [sizeOf, run_info h]
theorem run_zero {t : TypeId} {i : TypeInfo} {z : Value} (h : P.info? t = some i) (hz : i.zero = some z) : (zeroValue t).run P w = .ok z w := by simp [zeroValue, run_info h, hz]
theorem run_agg1 {t : TypeId} (h : aggSize P t = some none) : (isAgg t).run P w = .ok false w := by
  unfold aggSize at h
  unfold isAgg
  split at h
  · cases h
  · cases h
  · rename_i d i hs ha hd hi
    simp only [Sem.run_bind, run_und hd, Result.andThen_ok]
    rfl
  · cases h
theorem run_aggN {t : TypeId} {n : Nat} (h : aggSize P t = some (some n)) : (isAgg t).run P w = .ok true w ∧ (sizeOf t).run P w = .ok n w := by
  unfold aggSize at h
  unfold isAgg
  split at h
  · rename_i i hd hi
    cases h
    exact ⟨by simp only [Sem.run_bind, run_und hd, Result.andThen_ok]; rfl, run_size hi⟩
  · rename_i i hd hi
    cases h
    exact ⟨by simp only [Sem.run_bind, run_und hd, Result.andThen_ok]; rfl, run_size hi⟩
  · cases h
  · cases h

theorem addr_add (b off i : Nat) : (⟨b, off, none⟩ : Addr).add i = ⟨b, off + i, none⟩ := by
  unfold Addr.add; split
  · subst_vars; rfl
  · rfl
theorem cell_at {b : Nat} {rc : Array Value} {t : TypeId} {fr : Nat × Nat} (hh : w.heap[b]? = some (.cells rc t fr)) (k : Nat) : w.cell? ⟨b, k, none⟩ = rc[k]? := by
  simp [World.cell?, hh]
theorem run_loadFrom {b off : Nat} {rc : Array Value} {t : TypeId} {fr : Nat × Nat} (hh : w.heap[b]? = some (.cells rc t fr)) :
    ∀ (n i : Nat) (acc : Array Value), off + i + n ≤ rc.size → (loadCellsFrom ⟨b, off, none⟩ i n acc).run P w = .ok (acc ++ rc.extract (off + i) (off + i + n)) w
  | 0, i, acc, _ => by simp [loadCellsFrom]; omega
  | n + 1, i, acc, h => by
    have h1 : off + i < rc.size := by omega
    simp only [loadCellsFrom, addr_add, Sem.run_bind, run_load, cell_at hh, Array.getElem?_eq_getElem h1, Result.andThen_ok]
    rw [run_loadFrom hh n (i + 1) _ (by omega)]
    congr 1
    rw [← Array.toList_inj]
    simp only [Array.toList_append, Array.toList_push, Array.toList_extract, List.extract_eq_take_drop, List.append_assoc]
    congr 1
    have e1 : off + i + (n + 1) - (off + i) = n + 1 := by omega
    have e2 : off + (i + 1) + n - (off + (i + 1)) = n := by omega
    rw [e1, e2, List.drop_eq_getElem_cons (i := off + i) (by simpa using h1)]
    simp [Nat.add_assoc]
theorem run_loadC {b off n : Nat} {rc : Array Value} {t : TypeId} {fr : Nat × Nat} (hh : w.heap[b]? = some (.cells rc t fr)) (h : off + n ≤ rc.size) :
    (Go.loadCells ⟨b, off, none⟩ n).run P w = .ok (rc.extract off (off + n)) w := by
  unfold Go.loadCells
  rw [run_loadFrom hh n 0 #[] (by omega)]
  simp

theorem run_storeC {b : Nat} {t : TypeId} {fr : Nat × Nat} : ∀ (vs : List Value) (off i : Nat) (rc : Array Value) (w : World), w.heap[b]? = some (.cells rc t fr) → off + i + vs.length ≤ rc.size →
    (∀ k, k < rc.size → ¬ (fr.1 ≤ k ∧ k < fr.2)) → vs.all isCell = true →
    ∃ rc' w', (Go.storeCells ⟨b, off, none⟩ vs i).run P w = .ok () w' ∧ w'.heap = w.heap.setIfInBounds b (.cells rc' t fr) ∧ w'.os = w.os ∧ w'.tape = w.tape ∧ w'.output = w.output ∧ rc'.size = rc.size ∧
      (∀ j, j < vs.length → rc'[off + i + j]? = vs[j]?) ∧ (∀ k, (k < off + i ∨ off + i + vs.length ≤ k) → rc'[k]? = rc[k]?)
  | [], off, i, rc, w, hh, _, _, _ => by
    refine ⟨rc, w, by simp [Go.storeCells], ?_, rfl, rfl, rfl, rfl, fun j hj => by simp at hj, fun k _ => rfl⟩
    apply Array.ext_getElem?
    intro k
    by_cases e : b = k
    · subst e; rw [Array.getElem?_setIfInBounds_self, if_pos (Array.getElem?_eq_some_iff.1 hh).1, hh]
    · rw [Array.getElem?_setIfInBounds_ne e]
  | v :: vs, off, i, rc, w, hh, hlen, hfr, hc => by
    simp only [List.length_cons] at hlen
    simp only [List.all_cons, Bool.and_eq_true] at hc
    have h1 : off + i < rc.size := by omega
    have hcell : w.cell? ⟨b, off + i, none⟩ = some rc[off + i] := by rw [cell_at hh, Array.getElem?_eq_getElem h1]
    have hfz : w.frozen? ⟨b, off + i, none⟩ = false := by
      simp only [World.frozen?, hh]
      have := hfr _ h1
      simp only [Bool.and_eq_false_iff, decide_eq_false_iff_not]
      omega
    have hone : v.oneCell' = true := by
      have := hc.1
      cases v <;> first | rfl | (simp [isCell] at this)
    have hrun : (Go.store ⟨b, off + i, none⟩ v).run P w = .ok () (w.setCell ⟨b, off + i, none⟩ v) := by
      rw [run_store P w _ _ _ hone]; simp only [hcell, hfz]; rfl
    have hh2 : (w.setCell ⟨b, off + i, none⟩ v).heap = w.heap.setIfInBounds b (.cells (rc.setIfInBounds (off + i) v) t fr) := by
      apply Array.ext_getElem?
      intro k
      simp only [World.setCell, Array.getElem?_modify]
      by_cases e : b = k
      · subst e
        rw [if_pos rfl, hh, Array.getElem?_setIfInBounds_self, if_pos (Array.getElem?_eq_some_iff.1 hh).1]
        rfl
      · rw [if_neg e, Array.getElem?_setIfInBounds_ne e]
    have hblt := (Array.getElem?_eq_some_iff.1 hh).1
    obtain ⟨rc', w', r1, r2, r3, r4, r5, r6, r7, r8⟩ := run_storeC vs off (i + 1) (rc.setIfInBounds (off + i) v) (w.setCell ⟨b, off + i, none⟩ v)
      (by rw [hh2, Array.getElem?_setIfInBounds_self, if_pos hblt]) (by simp; omega) (by simpa using hfr) hc.2
    refine ⟨rc', w', ?_, ?_, by rw [r3]; rfl, by rw [r4]; rfl, by rw [r5]; rfl, by rw [r6]; simp, fun j hj => ?_, fun k hk => ?_⟩
    · simp only [Go.storeCells, addr_add, Sem.run_bind, hrun, Result.andThen_ok]
      exact r1
    · rw [r2, hh2]
      apply Array.ext_getElem?
      intro k
      by_cases e : b = k
      · subst e; simp [hblt]
      · rw [Array.getElem?_setIfInBounds_ne e, Array.getElem?_setIfInBounds_ne e, Array.getElem?_setIfInBounds_ne e]
    · cases j with
      | zero =>
        rw [r8 _ (by left; omega)]
        simp [h1]
      | succ j =>
        have := r7 j (by simpa using hj)
        rw [show off + i + (j + 1) = off + (i + 1) + j from by omega, this]; simp
    · simp only [List.length_cons] at hk
      rw [r8 k (by omega), Array.getElem?_setIfInBounds_ne (by omega)]

theorem noFr {fr : Nat × Nat} {n : Nat} (h : fr.1 = fr.2 ∨ n ≤ fr.1) : ∀ k, k < n → ¬ (fr.1 ≤ k ∧ k < fr.2) := fun k hk => by omega

/-- A load of cells. -/
theorem load_snd (h : Rel P Fz w0 β H w) {v v' : Value} {n : Nat} {vs : List Value} (hv : VRel β v v') (hl : loadCells H v n = some vs) :
    ∃ b off rc, v' = .pointer (some ⟨b, off, none⟩) ∧ (Go.loadCells ⟨b, off, none⟩ n).run P w = .ok rc w ∧ LRel β vs rc.toList ∧ vs.length = n ∧
      ∀ j u, vs[j]? = some u → ∃ u', w.cell? ⟨b, off + j, none⟩ = some u' ∧ VRel β u u' := by
  unfold loadCells at hl
  split at hl
  · rename_i i off
    split at hl
    · rename_i c t e ex r hg
      cases hv with
      | @ptr _ p _ hb =>
        obtain ⟨q, ro, h1, h2, h3⟩ := h.live i _ hg
        rw [hb] at h1; cases h1
        obtain ⟨rc, fr, rfl, _, _, _, hsz, hle, hcs, _⟩ := h3
        unfold piece at hl
        split at hl
        · rename_i hlen
          cases hl
          refine ⟨_, _, _, rfl, run_loadC h2 (by omega), ?_, by simp; omega, fun j u hu => ?_⟩
          case refine_2 =>
            simp only [List.getElem?_take, List.getElem?_drop] at hu
            split at hu
            · have hj : off + j < c.length := (List.getElem?_eq_some_iff.1 hu).1
              have hb2 : p.base + off + j < rc.size := by omega
              refine ⟨rc[p.base + off + j], by rw [cell_at h2]; exact Array.getElem?_eq_getElem hb2, ?_⟩
              exact hcs _ u _ hu (by rw [← Nat.add_assoc]; exact Array.getElem?_eq_getElem hb2)
            · cases hu
          refine ⟨by simp; omega, fun j u u' a b => ?_⟩
          simp only [List.getElem?_take, List.getElem?_drop] at a
          simp only [Array.toList_extract, List.extract_eq_take_drop, List.getElem?_take, List.getElem?_drop, Array.getElem?_toList] at b
          split at a
          · split at b
            · exact hcs (off + j) u u' a (by rw [← b]; congr 1; omega)
            · cases b
          · cases a
        · cases hl
    · cases hl
  · cases hl

/-- A store of cells. -/
theorem store_snd (h : Rel P Fz w0 β H w) {v v' : Value} {vs vs' : List Value} {H' : AHeap} (hv : VRel β v v') (hs : LRel β vs vs') (hl : storeCells H v vs = some H') :
    ∃ b off w', v' = .pointer (some ⟨b, off, none⟩) ∧ (Go.storeCells ⟨b, off, none⟩ vs').run P w = .ok () w' ∧ Rel P Fz w0 β H' w' := by
  unfold storeCells at hl
  split at hl
  · rename_i i off
    split at hl
    · rename_i c t e ex hg
      split at hl
      · rename_i hall
        unfold overwrite at hl
        by_cases hlen : off + vs.length ≤ c.length
        · rw [if_pos hlen] at hl; cases hl
          cases hv with
          | @ptr _ p _ hb =>
            obtain ⟨q, ro, h1, h2, h3⟩ := h.live i _ hg
            rw [hb] at h1; cases h1
            obtain ⟨rc, fr, rfl, he, hx, hr, hsz, hle, hcs, hfr⟩ := h3
            have hall' : vs'.all isCell = true := by
              rw [List.all_eq_true] at hall ⊢
              intro x hx
              obtain ⟨k, hk⟩ := List.mem_iff_getElem?.1 hx
              have hk' : k < vs.length := by rw [hs.1]; exact (List.getElem?_eq_some_iff.1 hk).1
              have := hs.2 k _ x (List.getElem?_eq_getElem hk') hk
              rw [isCell_rel this]
              exact hall _ (List.getElem_mem hk')
            obtain ⟨rc', w', r1, r2, r3, r4, r5, r6, r7, r8⟩ := run_storeC (P := P) vs' (p.base + off) 0 rc w h2 (by rw [← hs.1]; omega) (noFr (hfr rfl)) hall'
            refine ⟨_, _, w', rfl, r1, h.set (p := p) hg hb hr ?_ r2 r3 r4 r5⟩
            refine ⟨rc', fr, rfl, he, hx, hr, by rw [r6, hsz], by simp; omega, fun j u u' a b => ?_, by rw [r6]; exact hfr⟩
            by_cases h1 : j < off
            · rw [List.append_assoc, List.getElem?_append_left (by simp; omega), List.getElem?_take, if_pos h1] at a
              rw [r8 _ (by left; omega)] at b
              exact hcs j u u' a b
            · by_cases h2 : j < off + vs.length
              · rw [List.append_assoc, List.getElem?_append_right (by simp; omega), List.getElem?_append_left (by simp; omega)] at a
                have hm : min off c.length = off := by omega
                simp only [List.length_take, hm] at a
                have := r7 (j - off) (by rw [← hs.1]; omega)
                rw [show p.base + off + 0 + (j - off) = p.base + j from by omega] at this
                rw [this] at b
                exact hs.2 _ u u' a b
              · rw [List.append_assoc, List.getElem?_append_right (by simp; omega), List.getElem?_append_right (by simp; omega)] at a
                have hm : min off c.length = off := by omega
                simp only [List.length_take, hm, List.getElem?_drop] at a
                rw [show off + vs.length + (j - off - vs.length) = j from by omega] at a
                rw [r8 _ (by right; rw [← hs.1]; omega)] at b
                exact hcs j u u' a b
        · rw [if_neg hlen] at hl; cases hl
      · cases hl
    · cases hl
  · cases hl
end
end Go.E

namespace Go.E
section
variable {P : Program} {Fz : Fr} {w0 : World} {β : Bt} {H H' : AHeap} {w : World} {env : Env} {a : Act} {o : Oper} {res : Res}

/-- The common premises of the laws below. -/
theorem map_some {α γ : Type} {x : Option α} {f : α → γ} {y : γ} (h : x.map f = some y) : ∃ z, x = some z ∧ f z = y := by
  cases x with
  | none => cases h
  | some z => exact ⟨z, rfl, by simpa using h⟩

theorem snd_mov (h : Rel P Fz w0 β H w) (he : EnvRel β env a.tmps) {x : Operand} (ho : o.op = .move x ∨ o.op = .assign x) (ha : aop env H (.mov x) = some (res, H')) :
    RRel P Fz w0 β w H' res ((execOp a.eval o).run P w) := by
  simp only [aop] at ha
  obtain ⟨v, hv, e⟩ := map_some ha
  cases e
  refine RRel.pure h (opv_rel he hv) ?_
  rcases ho with ho | ho <;> (unfold execOp; rw [ho]; rfl)

theorem snd_pick (h : Rel P Fz w0 β H w) (he : EnvRel β env a.tmps) {c x y : Operand} (ho : o.op = .pick c x y) (ha : aop env H (.pick c x y) = some (res, H')) :
    RRel P Fz w0 β w H' res ((execOp a.eval o).run P w) := by
  simp only [aop] at ha
  split at ha
  · rename_i hc
    obtain ⟨v, hv, e⟩ := map_some ha
    cases e
    refine RRel.pure h (opv_rel he hv) ?_
    have := opv_rel he hc
    unfold execOp; rw [ho]; simp only
    cases hx : a.eval c <;> rw [hx] at this <;> cases this
    simp [asBool]
  · rename_i hc
    obtain ⟨v, hv, e⟩ := map_some ha
    cases e
    refine RRel.pure h (opv_rel he hv) ?_
    have := opv_rel he hc
    unfold execOp; rw [ho]; simp only
    cases hx : a.eval c <;> rw [hx] at this <;> cases this
    simp [asBool]
  · cases ha

theorem snd_un (h : Rel P Fz w0 β H w) (he : EnvRel β env a.tmps) {op : UnOp} {t : TypeId} {x : Operand} (ho : o.op = .unOp op t x) (ha : aop env H (.un op x) = some (res, H')) :
    RRel P Fz w0 β w H' res ((execOp a.eval o).run P w) := by
  simp only [aop] at ha
  obtain ⟨v, hv, e⟩ := map_some ha
  cases e
  obtain ⟨u, hu, hv⟩ := Option.bind_eq_some_iff.1 hv
  have hr := opv_rel he hu
  unfold unV at hv
  have key : ∃ v', (Go.Op.unary op (a.eval x)).run P w = .ok v' w ∧ VRel β v v' := by
    split at hv <;> (try cases hv)
    · cases hx : a.eval x <;> rw [hx] at hr <;> cases hr
      exact ⟨_, rfl, .bool _⟩
    · cases hx : a.eval x <;> rw [hx] at hr <;> cases hr
      exact ⟨_, rfl, .int _ _⟩
    · cases hx : a.eval x <;> rw [hx] at hr <;> cases hr
      exact ⟨_, rfl, .int _ _⟩
  obtain ⟨v', h1, h2⟩ := key
  refine RRel.pure h h2 ?_
  unfold execOp; rw [ho]; simp [h1]

theorem snd_nilCheck (h : Rel P Fz w0 β H w) (he : EnvRel β env a.tmps) {x : Operand} (ho : o.op = .nilCheck x) (ha : aop env H (.nilCheck x) = some (res, H')) :
    RRel P Fz w0 β w H' res ((execOp a.eval o).run P w) := by
  simp only [aop] at ha
  split at ha <;> (try cases ha)
  all_goals
    rename_i hx
    have hr := opv_rel he hx
    cases hy : a.eval x <;> rw [hy] at hr <;> cases hr
    refine RRel.pure h (v' := a.eval x) ?_ ?_
    · rw [hy]; constructor <;> assumption
    · unfold execOp; rw [ho]; simp [hy]

theorem snd_iface (h : Rel P Fz w0 β H w) (he : EnvRel β env a.tmps) {t : TypeId} {x : Operand} {u : TypeDesc} (hu : P.underlying t = some u) (hn : ∀ ms, u ≠ .interface ms)
    (ho : o.op = .makeInterface t x) (ha : aop env H (.iface t x) = some (res, H')) : RRel P Fz w0 β w H' res ((execOp a.eval o).run P w) := by
  simp only [aop] at ha
  obtain ⟨v, hv, e⟩ := map_some ha
  cases e
  refine RRel.pure h (.iface (opv_rel he hv)) ?_
  unfold execOp; rw [ho]
  simp only [Go.Instr.makeInterface, Sem.run_bind, run_und hu, Result.andThen_ok]
  rfl

theorem snd_mkfunc (h : Rel P Fz w0 β H w) (he : EnvRel β env a.tmps) {fn : Fn} {f1 c1 : Array Operand} (ho : o.op = .makeFunc fn f1 c1) (ha : aop env H (.mkfunc fn f1.toList c1.toList) = some (res, H')) :
    RRel P Fz w0 β w H' res ((execOp a.eval o).run P w) := by
  simp only [aop] at ha
  split at ha <;> (try cases ha)
  rename_i f xs ys h1 h2
  have l1 := opvs_rel he h1
  have l2 := opvs_rel he h2
  refine RRel.pure h (v' := .func (.func f) (f1.map a.eval) (c1.map a.eval)) ?_ ?_
  · refine .fn (by simpa using l1.1) (fun i v v' x y => l1.2 i v v' (by simpa using x) (by simpa using y)) (by simpa using l2.1) (fun i v v' x y => l2.2 i v v' (by simpa using x) (by simpa using y))
  · unfold execOp; rw [ho]; simp [Go.Instr.makeFunc]

theorem snd_ext (h : Rel P Fz w0 β H w) (he : EnvRel β env a.tmps) {x : Operand} {i : Nat} (ho : o.op = .extract x i) (ha : aop env H (.ext x i) = some (res, H')) :
    RRel P Fz w0 β w H' res ((execOp a.eval o).run P w) := by
  simp only [aop] at ha
  split at ha <;> (try cases ha)
  rename_i vs hx
  obtain ⟨v, hv, e⟩ := map_some ha
  cases e
  obtain ⟨vs', e1, l1⟩ := (opv_rel he hx).tupleList
  obtain ⟨v', h1, h2⟩ := l1.get hv
  refine RRel.pure h h2 ?_
  unfold execOp; rw [ho]
  simp only [Array.getElem?_toList] at h1
  simp [Go.Instr.extract, e1, h1]

theorem snd_addOff (h : Rel P Fz w0 β H w) (he : EnvRel β env a.tmps) {s : TypeId} {x : Operand} {f : Nat} {fields : Array Field} {fl : Field} {i : TypeInfo} (hu : P.underlying s = some (.struct fields))
    (hf : fields[f]? = some fl) (hi : P.info? fl.type = some i) (hz : i.size ≠ 0) (ho : o.op = .fieldAddr s x f) (ha : aop env H (.addOff fl.offset x) = some (res, H')) :
    RRel P Fz w0 β w H' res ((execOp a.eval o).run P w) := by
  simp only [aop] at ha
  split at ha <;> (try cases ha)
  rename_i b off hx
  have hr := opv_rel he hx
  cases hy : a.eval x <;> rw [hy] at hr <;> cases hr
  rename_i p hb
  refine RRel.pure h (v' := .pointer (some ⟨p.rb, p.base + (off + fl.offset), none⟩)) (.ptr _ hb) ?_
  unfold execOp; rw [ho]
  simp [Go.Instr.fieldAt, run_und hu, hf, hy, Go.Instr.sureAddr, fieldPlace, run_size hi, hz, addr_add, Nat.add_assoc]

theorem snd_part (h : Rel P Fz w0 β H w) (he : EnvRel β env a.tmps) {t : TypeId} {x : Operand} {f : Nat} {fields : Array Field} {fl : Field} {n : Option Nat} (hu : P.underlying t = some (.struct fields))
    (hf : fields[f]? = some fl) (hn : aggSize P fl.type = some n) (ho : o.op = .field t x f) (ha : aop env H (.part fl.offset n x) = some (res, H')) :
    RRel P Fz w0 β w H' res ((execOp a.eval o).run P w) := by
  simp only [aop] at ha
  split at ha <;> (try cases ha)
  rename_i cs hx
  obtain ⟨cs', e1, l1⟩ := (opv_rel he hx).aggList
  cases n with
  | none =>
    obtain ⟨v, hv, e⟩ := map_some ha
    cases e
    obtain ⟨v', h1, h2⟩ := l1.get hv
    simp only [Array.getElem?_toList] at h1
    refine RRel.pure h h2 ?_
    unfold execOp; rw [ho]
    simp [Go.Instr.field, run_und hu, hf, e1, asAgg, Go.part, run_agg1 hn, h1]
  | some n =>
    simp only at ha
    split at ha <;> (try cases ha)
    refine RRel.pure h ((l1.drop fl.offset).take n).agg ?_
    unfold execOp; rw [ho]
    simp only [Go.Instr.field, Sem.run_bind, run_und hu, hf, e1, asAgg, Go.part, (run_aggN hn).1, (run_aggN hn).2, Result.andThen_ok, Sem.run_pure]
    simp only [if_true, Sem.run_bind, (run_aggN hn).2, Result.andThen_ok, Sem.run_pure]
    congr 3
    rw [← Array.toList_inj]
    simp [List.extract_eq_take_drop]

theorem idx_le {i : Int} {n : Nat} (h0 : 0 ≤ i) (h1 : i < n) : i.toNat < n := by omega

theorem snd_idxS (h : Rel P Fz w0 β H w) (he : EnvRel β env a.tmps) {t e : TypeId} {x i : Operand} {inf : TypeInfo} (hu : P.underlying t = some (.slice e)) (hi : P.info? e = some inf)
    (ho : o.op = .indexAddr t x i) (ha : aop env H (.idxS inf.size x i) = some (res, H')) : RRel P Fz w0 β w H' res ((execOp a.eval o).run P w) := by
  simp only [aop] at ha
  split at ha <;> (try cases ha)
  rename_i b off len cap k j hx hj
  split at ha <;> (try cases ha)
  rename_i hlt
  have hr := opv_rel he hx
  have hk := opv_rel he hj
  obtain ⟨p, ro, rc, hb, hy, h1, h2, h3, h4, h5⟩ := hr.invSl
  have hz := hk.invInt
  have hro : ro = p.base + off := h3.resolve_left (by omega)
  subst hro
  refine RRel.pure h (v' := .pointer (some ⟨p.rb, p.base + (off + j.toNat * inf.size), none⟩)) (.ptr _ hb) ?_
  unfold execOp; rw [ho]
  simp [Go.Instr.indexAt, hz, asIntOf, run_und hu, hy, hlt, run_size hi, addr_add, Nat.add_assoc]

theorem snd_idxA (h : Rel P Fz w0 β H w) (he : EnvRel β env a.tmps) {t e : TypeId} {n : Nat} {x i : Operand} {inf : TypeInfo} (hu : P.underlying t = some (.array n e)) (hi : P.info? e = some inf)
    (ho : o.op = .indexAddr t x i) (ha : aop env H (.idxA n inf.size x i) = some (res, H')) : RRel P Fz w0 β w H' res ((execOp a.eval o).run P w) := by
  simp only [aop] at ha
  split at ha <;> (try cases ha)
  rename_i b off k j hx hj
  split at ha <;> (try cases ha)
  rename_i hlt
  have hr := opv_rel he hx
  have hk := opv_rel he hj
  cases hy : a.eval x <;> rw [hy] at hr <;> cases hr
  cases hz : a.eval i <;> rw [hz] at hk <;> cases hk
  rename_i p hb
  refine RRel.pure h (v' := .pointer (some ⟨p.rb, p.base + (off + j.toNat * inf.size), none⟩)) (.ptr _ hb) ?_
  unfold execOp; rw [ho]
  simp [Go.Instr.indexAt, hz, asIntOf, run_und hu, hy, hlt, run_size hi, addr_add, Nat.add_assoc, Go.Instr.sureAddr]

theorem snd_strAt (h : Rel P Fz w0 β H w) (he : EnvRel β env a.tmps) {t : TypeId} {x i : Operand} (hu : P.underlying t = some .string)
    (ho : o.op = .index t x i) (ha : aop env H (.strAt x i) = some (res, H')) : RRel P Fz w0 β w H' res ((execOp a.eval o).run P w) := by
  simp only [aop] at ha
  split at ha <;> (try cases ha)
  rename_i s k j hx hj
  split at ha <;> (try cases ha)
  rename_i hlt
  obtain ⟨v, hv, e⟩ := map_some ha
  cases e
  have hr := opv_rel he hx
  have hk := opv_rel he hj
  cases hy : a.eval x <;> rw [hy] at hr <;> cases hr
  cases hz : a.eval i <;> rw [hz] at hk <;> cases hk
  refine RRel.pure h (.int _ _) ?_
  unfold execOp; rw [ho]
  have hg : s[j.toNat]? = some v := by
    rw [← hv]
    have hlen := (List.getElem?_eq_some_iff.1 hv).1
    have hlen' : j.toNat < s.size := by simpa using hlen
    rw [getElem?_pos s j.toNat hlen', List.getElem?_eq_getElem hlen]
    rfl
  simp [Go.Instr.index, hz, asIntOf, run_und hu, hy, hlt, hg]

theorem snd_toInt (h : Rel P Fz w0 β H w) (he : EnvRel β env a.tmps) {s d : TypeId} {k k0 : IntKind} {x : Operand} (hs : P.underlying s = some (.int k0)) (hd : P.underlying d = some (.int k))
    (ho : o.op = .convert s d x) (ha : aop env H (.toInt k x) = some (res, H')) : RRel P Fz w0 β w H' res ((execOp a.eval o).run P w) := by
  simp only [aop] at ha
  split at ha <;> (try cases ha)
  rename_i k1 n hx
  have hr := opv_rel he hx
  cases hy : a.eval x <;> rw [hy] at hr <;> cases hr
  refine RRel.pure h (.int _ _) ?_
  unfold execOp; rw [ho]
  simp [Go.convert, run_und hs, run_und hd, hy, Conv.intToInt]

theorem snd_same (h : Rel P Fz w0 β H w) (he : EnvRel β env a.tmps) {s d : TypeId} {x : Operand} (hs : P.underlying s = some .string) (hd : P.underlying d = some .string)
    (ho : o.op = .convert s d x) (ha : aop env H (.same x) = some (res, H')) : RRel P Fz w0 β w H' res ((execOp a.eval o).run P w) := by
  simp only [aop] at ha
  split at ha <;> (try cases ha)
  rename_i t hx
  have hr := opv_rel he hx
  cases hy : a.eval x <;> rw [hy] at hr <;> cases hr
  refine RRel.pure h (.string _) ?_
  unfold execOp; rw [ho]
  simp [Go.convert, run_und hs, run_und hd, hy]
end
end Go.E

namespace Go.E
section
variable {P : Program} {Fz : Fr} {w0 : World} {β : Bt} {H H' : AHeap} {w : World} {env : Env} {a : Act} {o : Oper} {res : Res}

theorem snd_load1 (h : Rel P Fz w0 β H w) (he : EnvRel β env a.tmps) {t : TypeId} {x : Operand} (hn : aggSize P t = some none) (ho : o.op = .load t x) (ha : aop env H (.load1 x) = some (res, H')) :
    RRel P Fz w0 β w H' res ((execOp a.eval o).run P w) := by
  simp only [aop] at ha
  split at ha <;> (try cases ha)
  rename_i v hv
  obtain ⟨u, hu, hl⟩ := Option.bind_eq_some_iff.1 hv
  obtain ⟨b, off, rc, e1, _, _, _, hc⟩ := load_snd h (opv_rel he hu) hl
  obtain ⟨v', h1, h2⟩ := hc 0 v rfl
  refine RRel.pure h h2 ?_
  unfold execOp; rw [ho]
  simp only [Nat.add_zero] at h1
  simp [Go.Instr.loadAt, e1, Go.Instr.sureAddr, loadVar, run_agg1 hn, h1]

theorem snd_loadN (h : Rel P Fz w0 β H w) (he : EnvRel β env a.tmps) {t : TypeId} {x : Operand} {n : Nat} (hn : aggSize P t = some (some n)) (ho : o.op = .load t x)
    (ha : aop env H (.loadN n x) = some (res, H')) : RRel P Fz w0 β w H' res ((execOp a.eval o).run P w) := by
  simp only [aop] at ha
  obtain ⟨vs, hv, e⟩ := map_some ha
  cases e
  obtain ⟨u, hu, hl⟩ := Option.bind_eq_some_iff.1 hv
  obtain ⟨b, off, rc, e1, hr, hl2, _, _⟩ := load_snd h (opv_rel he hu) hl
  refine RRel.pure h hl2.agg ?_
  unfold execOp; rw [ho]
  simp [Go.Instr.loadAt, e1, Go.Instr.sureAddr, loadVar, (run_aggN hn).1, (run_aggN hn).2, hr]

theorem snd_store (h : Rel P Fz w0 β H w) (he : EnvRel β env a.tmps) {t : TypeId} {p x : Operand} {i : TypeInfo} (hi : P.info? t = some i) (ho : o.op = .store t p x)
    (ha : aop env H (.store i.size p x) = some (res, H')) : RRel P Fz w0 β w H' res ((execOp a.eval o).run P w) := by
  simp only [aop] at ha
  split at ha <;> (try cases ha)
  rename_i pv xv hp hx
  split at ha <;> (try cases ha)
  rename_i hsz
  obtain ⟨H2, hs, e⟩ := map_some ha
  cases e
  have hc := cells_rel (opv_rel he hx)
  obtain ⟨b, off, w', e1, hr, hrel⟩ := store_snd h (opv_rel he hp) hc hs
  have hsz' : (a.eval x).cells.size = i.size := by rw [← hsz]; have := hc.1; simp at this; exact this.symm
  refine ⟨w', β, ?_, Bt.le_refl β, hrel⟩
  unfold execOp; rw [ho]
  simp [Go.Instr.storeAt, e1, Go.Instr.sureAddr, storeVar, run_size hi, hsz', hr]

/-- New cells. -/
theorem new_snd (h : Rel P Fz w0 β H w) {c : List Value} {c' : Array Value} {t : TypeId} (e : Nat) (ex : Bool) (hl : LRel β c c'.toList) :
    Rel P Fz w0 (β.upd H.next ⟨w.heap.size, 0, c'.size, e, ex, false⟩) (H.alloc (.cells c t e ex false)) { w with heap := w.heap.push (.cells c' t) } ∧
    β.le (β.upd H.next ⟨w.heap.size, 0, c'.size, e, ex, false⟩) := by
  have hle := Bt.le_upd ⟨w.heap.size, 0, c'.size, e, ex, false⟩ h.nextNone
  refine ⟨h.alloc rfl rfl ⟨c', (0, 0), rfl, rfl, rfl, rfl, rfl, by have := hl.1; simp at this; simp [this], fun j v v' a b => ?_, fun _ => .inl rfl⟩, hle⟩
  have := hl.2 j v v' a (by simpa using b)
  exact this.mono hle

theorem snd_new (h : Rel P Fz w0 β H w) {t : TypeId} {i : TypeInfo} {z : Value} (hi : P.info? t = some i) (hz : i.zero = some z) (ho : o.op = .alloc t)
    (ha : aop env H (.new z.cells.toList t i.size) = some (res, H')) : RRel P Fz w0 β w H' res ((execOp a.eval o).run P w) := by
  simp only [aop] at ha
  split at ha <;> (try cases ha)
  rename_i hc
  obtain ⟨h1, h2⟩ := new_snd h (c' := z.cells) (t := t) i.size true (clo1s_rel β hc)
  refine ⟨.pointer (some ⟨w.heap.size, 0, none⟩), _, _, ?_, h2, .ptr (p := ⟨w.heap.size, 0, z.cells.size, i.size, true, false⟩) 0 (Bt.upd_at _ _ _), h1⟩
  unfold execOp; rw [ho]
  simp [Go.Instr.alloc, run_zero hi hz, newVar, newRow]

theorem snd_box (h : Rel P Fz w0 β H w) (he : EnvRel β env a.tmps) {t : TypeId} {n : Nat} {x : Operand} (ho : o.op = .box t x)
    (ha : aop env H (.box t n x) = some (res, H')) : RRel P Fz w0 β w H' res ((execOp a.eval o).run P w) := by
  simp only [aop] at ha
  split at ha <;> (try cases ha)
  rename_i v hv
  split at ha <;> (try cases ha)
  obtain ⟨h1, h2⟩ := new_snd h (t := t) n true (cells_rel (opv_rel he hv))
  refine ⟨.pointer (some ⟨w.heap.size, 0, none⟩), _, _, ?_, h2, .ptr (p := ⟨w.heap.size, 0, _, n, true, false⟩) 0 (Bt.upd_at _ _ _), h1⟩
  unfold execOp; rw [ho]
  simp [Go.Instr.box, newVar, newRow]

theorem snd_mkmap (h : Rel P Fz w0 β H w) {t : TypeId} (ho : o.op = .makeMap t none) (ha : aop env H .mkmap = some (res, H')) : RRel P Fz w0 β w H' res ((execOp a.eval o).run P w) := by
  simp only [aop] at ha
  cases ha
  have hn := h.nextNone
  refine ⟨.map (some w.heap.size), _, _, ?_, Bt.le_upd ⟨w.heap.size, 0, 0, 0, true, false⟩ hn, .map (p := ⟨w.heap.size, 0, 0, 0, true, false⟩) (Bt.upd_at _ _ _),
    h.alloc (ro := .map #[] 0) rfl rfl ⟨rfl, #[], rfl, rfl, fun j e r x => by simp at x⟩⟩
  unfold execOp; rw [ho]
  simp [Go.Instr.makeMap]

theorem snd_mkmapN (h : Rel P Fz w0 β H w) (he : EnvRel β env a.tmps) {t k e : TypeId} {x : Operand} (hu : P.underlying t = some (.map k e)) (ho : o.op = .makeMap t (some x)) (ha : aop env H (.mkmapN x) = some (res, H')) : RRel P Fz w0 β w H' res ((execOp a.eval o).run P w) := by
  simp only [aop] at ha
  split at ha <;> (try cases ha)
  rename_i kk n hx
  have hv := (opv_rel he hx).invInt
  have hn := h.nextNone
  refine ⟨.map (some w.heap.size), _, _, ?_, Bt.le_upd ⟨w.heap.size, 0, 0, 0, true, false⟩ hn, .map (p := ⟨w.heap.size, 0, 0, 0, true, false⟩) (Bt.upd_at _ _ _),
    h.alloc (ro := .map #[] 0) rfl rfl ⟨rfl, #[], rfl, rfl, fun j e r x => by simp at x⟩⟩
  unfold execOp; rw [ho]
  simp [Go.Instr.makeMap, run_und hu, hv, asInt, asIntOf]
theorem snd_s2ap (h : Rel P Fz w0 β H w) (he : EnvRel β env a.tmps) {t e : TypeId} {n : Nat} {x : Operand} (hu : P.underlying t = some (.array n e)) (ho : o.op = .sliceToArrayPointer t x) (ha : aop env H (.s2ap n x) = some (res, H')) : RRel P Fz w0 β w H' res ((execOp a.eval o).run P w) := by
  simp only [aop] at ha
  split at ha <;> (try cases ha)
  rename_i i off len cap hx
  split at ha <;> (try cases ha)
  rename_i hc
  obtain ⟨p, ro, rc, hb2, hy2, h1, h2, h3, h4, h5⟩ := (opv_rel he hx).invSl
  have hro : ro = p.base + off := h3.resolve_left (by omega)
  subst hro
  refine RRel.pure h (.ptr off hb2) ?_
  unfold execOp; rw [ho]
  have hnl : ¬ (len < n) := by omega
  simp [Go.Instr.arrayAt, run_und hu, hy2, hnl]
theorem snd_rangeStr (h : Rel P Fz w0 β H w) (he : EnvRel β env a.tmps) {t : TypeId} {x : Operand} (hu : P.underlying t = some .string) (ho : o.op = .range t x)
    (ha : aop env H (.rangeStr x) = some (res, H')) : RRel P Fz w0 β w H' res ((execOp a.eval o).run P w) := by
  simp only [aop] at ha
  split at ha <;> (try cases ha)
  rename_i s hv
  have hx := (opv_rel he hv).invStr
  have hn := h.nextNone
  refine ⟨.pointer (some ⟨w.heap.size, 0, none⟩), _, _, ?_, Bt.le_upd ⟨w.heap.size, 0, 0, 0, true, false⟩ hn, .ptr (p := ⟨w.heap.size, 0, 0, 0, true, false⟩) 0 (Bt.upd_at _ _ _),
    h.alloc (ro := .stringIter s 0) rfl rfl ⟨rfl, rfl, rfl⟩⟩
  unfold execOp; rw [ho]
  simp [Go.Instr.range, run_und hu, hx]

theorem run_getO {r : Nat} {ob : Obj} (hh : w.heap[r]? = some ob) (hc : ∀ c t f, ob ≠ .cells c t f) : (getObj r).run P w = .ok ob w := by
  cases ob <;> first | exact absurd rfl (hc _ _ _) | simp [getObj, Sem.run, hh]
theorem run_setO {r : Nat} {ob : Obj} (hh : w.heap[r]? = some ob) (hc : ∀ c t f, ob ≠ .cells c t f) (o' : Obj) : (setObj r o').run P w = .ok () { w with heap := w.heap.setIfInBounds r o' } := by
  cases ob <;> first | exact absurd rfl (hc _ _ _) | simp [setObj, Sem.run, hh]

theorem snd_nextStr (h : Rel P Fz w0 β H w) (he : EnvRel β env a.tmps) {x : Operand} (ho : o.op = .next x true)
    (ha : aop env H (.next x true) = some (res, H')) : RRel P Fz w0 β w H' res ((execOp a.eval o).run P w) := by
  simp only [aop] at ha
  split at ha <;> (try cases ha)
  rename_i i hv
  split at ha <;> (try cases ha)
  rename_i s pos hg
  obtain ⟨p, hb, hx⟩ := (opv_rel he hv).invPtr
  obtain ⟨q, ro, h1, h2, h3⟩ := h.live i _ hg
  rw [hb] at h1; cases h1
  obtain ⟨hr, hbase, rfl⟩ := h3
  have hx' : a.eval x = .pointer (some ⟨p.rb, 0, none⟩) := by rw [hx, hbase]
  split at ha
  · rename_i hlt
    cases ha
    refine ⟨_, _, β, ?_, Bt.le_refl β, LRel.tuple (LRel.cons (.bool true) (LRel.cons (.int .i64 pos) (LRel.cons (.int .i32 _) (LRel.nil β)))),
      h.set (p := p) (o := .iter s (pos + (Utf8.decode s pos).2)) (ro := .stringIter s (pos + (Utf8.decode s pos).2)) (w' := { w with heap := w.heap.setIfInBounds p.rb (.stringIter s (pos + (Utf8.decode s pos).2)) }) hg hb hr ⟨hr, hbase, rfl⟩ rfl rfl rfl rfl⟩
    unfold execOp; rw [ho]
    simp [Go.Instr.next, hx', run_getO h2 (by simp), run_setO h2 (by simp), hlt, goInt]
  · rename_i hlt
    cases ha
    refine RRel.pure h (LRel.tuple (LRel.cons (.bool false) (LRel.nil β))) ?_
    unfold execOp; rw [ho]
    simp [Go.Instr.next, hx', run_getO h2 (by simp), hlt]

theorem bytes_eq (s t : ByteArray) : (s.toList == t.toList) = (s.data.toList == t.data.toList) := by
  have h : ∀ x : ByteArray, x.toList = x.data.toList := ByteArray.toList_eq
  rw [h, h]
end
end Go.E

namespace Go.E
section
variable {P : Program} {Fz : Fr} {w0 : World} {β : Bt} {H H' : AHeap} {w : World} {env : Env} {a : Act} {o : Oper} {res : Res}

def noAgg2 : Value → Value → Bool
  | .agg _, .agg _ => false
  | _, _ => true
def noNil2 : Value → Value → Bool
  | .nilIface, .nilIface => false
  | .agg _, .agg _ => false
  | _, _ => true
theorem run_eqGuard_plain (op : BinOp) (t : TypeId) (x y : Operand) (u v : Value) (h : noNil2 u v = true) :
    (eqGuard op t x y u v).run P w = .ok () w := by
  unfold eqGuard
  cases op <;> (first | rfl | (cases u <;> cases v <;> first | rfl | cases h))

theorem binInt_snd {op : BinOp} {t : TypeId} {k : IntKind} {m n : Int} {v : Value} (h : binInt op k m n = some v) (hop : op ≠ .shl ∧ op ≠ .shr) : (Go.binOp op t (.int k m) (.int k n)).run P w = .ok v w ∧ VRel β v v := by
  cases op <;> simp [binInt] at h <;> (try (exact absurd rfl hop.1)) <;> (try (exact absurd rfl hop.2))
  all_goals first
    | (subst h; exact ⟨by simp [Go.binOp, Op.intArith, Op.intBits, Op.intCmp], by constructor⟩)
    | (obtain ⟨h0, rfl⟩ := h; exact ⟨by simp [Go.binOp, Op.intDiv, h0], by constructor⟩)

theorem shift_snd {op : BinOp} {t : TypeId} {k k' : IntKind} {m n : Int} {v : Value} (h : shiftInt op k m n = some v) : (Go.binOp op t (.int k m) (.int k' n)).run P w = .ok v w ∧ VRel β v v := by
  unfold shiftInt at h
  split at h
  · cases h
  · rename_i hn
    cases op <;> simp at h
    all_goals (subst h; exact ⟨by simp [Go.binOp, Op.shift, hn], by constructor⟩)

theorem binStr_snd {op : BinOp} {t : TypeId} {s u : ByteArray} {v : Value} (h : binStr op s u = some v) : (Go.binOp op t (.string s) (.string u)).run P w = .ok v w ∧ VRel β v v := by
  cases op <;> simp [binStr] at h
  case add =>
    obtain ⟨hl, rfl⟩ := h
    refine ⟨?_, by constructor⟩
    simp only [Go.binOp, Op.stringOp]
    rw [if_neg]
    · rfl
    · unfold maxB at hl; have : IntKind.i64.max = 9223372036854775807 := by rfl
      rw [this]; omega
  all_goals (subst h; refine ⟨?_, by constructor⟩; simp [Go.binOp, Op.stringOp, ByteArray.toList_eq])

set_option maxHeartbeats 1600000 in
theorem eqV_sndD (d : Nat) {u : TypeDesc} {t : TypeId} {c : Bool} {x y x' y' : Value} {b : Bool} (hu : P.underlying t = some u) (h : eqV u c x y = some b) (hx : VRel β x x') (hy : VRel β y y') :
    (Op.equalIn (d + 1) t x' y').run P w = .ok b w ∧ (c = true ∨ noNil2 x' y' = true) := by
  unfold eqV at h
  split at h <;> (try cases h)
  · have e1 := hx.invBool; have e2 := hy.invBool; subst e1; subst e2
    exact ⟨by simp [Op.equalIn, run_und hu], .inr rfl⟩
  · cases hx; cases hy <;> exact ⟨by simp [Op.equalIn, run_und hu], .inr rfl⟩
  · cases hx; cases hy; exact ⟨by simp [Op.equalIn, run_und hu], .inr rfl⟩
  · cases hx; cases hy <;> exact ⟨by simp [Op.equalIn, run_und hu], .inr rfl⟩
  · cases hx <;> cases hy <;> exact ⟨by simp [Op.equalIn, run_und hu], .inr rfl⟩
  · cases hx; cases hy <;> exact ⟨by simp [Op.equalIn, run_und hu], .inr rfl⟩
  · cases hx; cases hy; exact ⟨by simp [Op.equalIn, run_und hu], .inr rfl⟩
  · cases hx; cases hy; exact ⟨by simp [Op.equalIn, run_und hu], .inr rfl⟩
  · cases hx; cases hy <;> exact ⟨by simp [Op.equalIn, run_und hu], .inr rfl⟩
  · cases hx <;> cases hy; all_goals exact ⟨by simp [Op.equalIn, run_und hu], .inr rfl⟩
  · split at h
    · rename_i hc; cases h; cases hx; cases hy; exact ⟨by simp [Op.equalIn, run_und hu], .inl hc⟩
    · cases h
  · cases hx; cases hy; exact ⟨by simp [Op.equalIn, run_und hu], .inr rfl⟩
  · cases hx; cases hy; exact ⟨by simp [Op.equalIn, run_und hu], .inr rfl⟩

theorem eqV_snd {u : TypeDesc} {t : TypeId} {c : Bool} {x y x' y' : Value} {b : Bool} (hu : P.underlying t = some u) (h : eqV u c x y = some b) (hx : VRel β x x') (hy : VRel β y y') :
    (Op.equal t x' y').run P w = .ok b w ∧ (c = true ∨ noNil2 x' y' = true) := eqV_sndD 9999 hu h hx hy

end
end Go.E

namespace Go.E
section
variable {P : Program} {Fz : Fr} {w0 : World} {β : Bt} {H H' : AHeap} {w : World} {env : Env} {a : Act} {o : Oper} {res : Res}

theorem binOp_eq {u : TypeDesc} {t : TypeId} {c : Bool} {x y x' y' : Value} {b : Bool} (h : eqV u c x y = some b) (hx : VRel β x x') (hy : VRel β y y') :
    Go.binOp .eql t x' y' = (do pure (.bool (← Op.equal t x' y'))) ∧ Go.binOp .neq t x' y' = (do pure (.bool (!(← Op.equal t x' y')))) := by
  unfold eqV at h
  split at h <;> (try cases h)
  · have e1 := hx.invBool; have e2 := hy.invBool; subst e1; subst e2; exact ⟨rfl, rfl⟩
  · cases hx; cases hy <;> exact ⟨rfl, rfl⟩
  · cases hx; cases hy; exact ⟨rfl, rfl⟩
  · cases hx; cases hy <;> exact ⟨rfl, rfl⟩
  · cases hx <;> cases hy <;> exact ⟨rfl, rfl⟩
  · cases hx; cases hy <;> exact ⟨rfl, rfl⟩
  · cases hx; cases hy; exact ⟨rfl, rfl⟩
  · cases hx; cases hy; exact ⟨rfl, rfl⟩
  · cases hx; cases hy <;> exact ⟨rfl, rfl⟩
  · cases hx <;> cases hy; all_goals exact ⟨rfl, rfl⟩
  · cases hx; cases hy; exact ⟨rfl, rfl⟩
  · cases hx; cases hy; exact ⟨rfl, rfl⟩
  · cases hx; cases hy; exact ⟨rfl, rfl⟩

theorem eqGuard_const (op : BinOp) (t : TypeId) (x y : Operand) (u v : Value) (hc : isConst x = true ∨ isConst y = true) (hag : noAgg2 u v = true) :
    (eqGuard op t x y u v).run P w = .ok () w := by
  cases u <;> cases v <;> first
    | (cases op <;> rfl)
    | (simp [noAgg2] at hag; done)
    | (cases x <;> cases y <;> first | (cases op <;> rfl) | simp [isConst] at hc)

theorem eqV_noagg {u : TypeDesc} {c : Bool} {x y x' y' : Value} {b : Bool} (h : eqV u c x y = some b) (hx : VRel β x x') (hy : VRel β y y') :
    noAgg2 x' y' = true := by
  unfold eqV at h
  split at h <;> (try cases h) <;> (cases hx <;> cases hy <;> rfl)

theorem snd_bin (h : Rel P Fz w0 β H w) (he : EnvRel β env a.tmps) {op : BinOp} {t ty : TypeId} {u : TypeDesc} {x y : Operand} (hu : P.underlying t = some u) (ho : o.op = .binOp op t x y ty)
    (ha : aop env H (.bin op t u x y) = some (res, H')) : RRel P Fz w0 β w H' res ((execOp a.eval o).run P w) := by
  simp only [aop] at ha
  split at ha <;> (try cases ha)
  rename_i xv yv hx hy
  obtain ⟨v, hv, e⟩ := map_some ha
  cases e
  have hx' := opv_rel he hx
  have hy' := opv_rel he hy
  have key : (eqGuard op t x y (a.eval x) (a.eval y)).run P w = .ok () w ∧ ∃ v', (Go.binOp op t (a.eval x) (a.eval y)).run P w = .ok v' w ∧ VRel β v v' := by
    unfold binV at hv
    split at hv
    · rename_i k m k' n
      have e1 := hx'.invInt
      have e2 := hy'.invInt
      rw [e1, e2]
      refine ⟨run_eqGuard_plain _ _ _ _ _ _ rfl, ?_⟩
      split at hv
      · exact ⟨v, shift_snd hv⟩
      · exact ⟨v, shift_snd hv⟩
      · rename_i hn1 hn2
        split at hv
        · rename_i hk; subst hk
          exact ⟨v, binInt_snd hv ⟨fun e => hn1 e, fun e => hn2 e⟩⟩
        · cases hv
    · have e1 := hx'.invStr
      have e2 := hy'.invStr
      rw [e1, e2]
      exact ⟨run_eqGuard_plain _ _ _ _ _ _ rfl, v, binStr_snd hv⟩
    · split at hv
      · obtain ⟨b, hb, e⟩ := map_some hv
        cases e
        obtain ⟨h1, h2⟩ := eqV_snd (P := P) (w := w) hu hb hx' hy'
        refine ⟨?_, .bool b, ?_, .bool b⟩
        · rcases h2 with h2 | h2
          · refine eqGuard_const _ _ _ _ _ _ (by simpa using h2) (eqV_noagg hb hx' hy')
          · exact run_eqGuard_plain _ _ _ _ _ _ h2
        · rw [(binOp_eq (t := t) hb hx' hy').1]; simp [h1]
      · obtain ⟨b, hb, e⟩ := map_some hv
        cases e
        obtain ⟨h1, h2⟩ := eqV_snd (P := P) (w := w) hu hb hx' hy'
        refine ⟨?_, .bool !b, ?_, .bool _⟩
        · rcases h2 with h2 | h2
          · refine eqGuard_const _ _ _ _ _ _ (by simpa using h2) (eqV_noagg hb hx' hy')
          · exact run_eqGuard_plain _ _ _ _ _ _ h2
        · rw [(binOp_eq (t := t) hb hx' hy').2]; simp [h1]
      · cases hv
  obtain ⟨k1, v', k2, k3⟩ := key
  refine RRel.pure h k3 ?_
  unfold execOp; rw [ho]
  simp [k1, k2]
end
end Go.E

namespace Go.E
section
variable {P : Program} {Fz : Fr} {w0 : World} {β : Bt} {H H' : AHeap} {w : World} {env : Env} {a : Act} {o : Oper} {res : Res}

theorem foldl_set (off : Nat) : ∀ (vs : List Value) (k : Nat) (cells : Array Value), off + k + vs.length ≤ cells.size →
    ((vs.zipIdx k).foldl (fun (cs : Array Value) (x : Value × Nat) => cs.setIfInBounds (off + x.2) x.1) cells).toList = cells.toList.take (off + k) ++ vs ++ cells.toList.drop (off + k + vs.length)
  | [], k, cells, h => by simp
  | v :: vs, k, cells, h => by
    simp only [List.length_cons] at h
    simp only [List.zipIdx_cons, List.foldl_cons]
    rw [foldl_set off vs (k + 1) _ (by simp; omega)]
    have hk : off + k < cells.toList.length := by simp; omega
    simp only [Array.toList_setIfInBounds, List.length_cons]
    rw [List.take_set, List.drop_set, if_pos (by omega)]
    have e1 : List.take (off + (k + 1)) cells.toList = List.take (off + k) cells.toList ++ [cells.toList[off + k]] := by
      rw [← Nat.add_assoc, List.take_succ_eq_append_getElem hk]
    rw [e1, List.set_append_right _ _ (by simp; omega)]
    have hm : min (off + k) cells.size = off + k := by omega
    simp [hm, Nat.add_assoc, Nat.add_comm 1]

theorem fill_snd {place : Nat → Option (Nat × Nat)} : ∀ (ps : List (Nat × Nat × Value)) (qs : List (Nat × Value)) (c d : List Value) (c' : Array Value), ps.length = qs.length →
    (∀ (j : Nat) (p : Nat × Nat × Value) (q : Nat × Value), ps[j]? = some p → qs[j]? = some q → place q.1 = some (p.1, p.2.1) ∧ VRel β p.2.2 q.2) → LRel β c c'.toList → fillL c ps = some d →
    ∃ d', Go.Instr.fill place c' qs = some d' ∧ LRel β d d'.toList
  | [], qs, c, d, c', hl, _, hc, hf => by
    have : qs = [] := List.length_eq_zero_iff.1 (by simpa using hl.symm)
    subst this
    simp only [fillL] at hf; cases hf
    exact ⟨c', rfl, hc⟩
  | (off, size, v) :: ps, qs, c, d, c', hl, hp, hc, hf => by
    cases qs with
    | nil => simp at hl
    | cons q qs =>
      obtain ⟨i, v'⟩ := q
      obtain ⟨h1, h2⟩ := hp 0 _ _ rfl rfl
      simp only at h1 h2
      simp only [fillL] at hf
      split at hf <;> (try cases hf)
      rename_i hsz
      split at hf <;> (try cases hf)
      rename_i c2 hov
      have hcr := cells_rel h2
      have hsz' : v'.cells.size = size := by rw [← hsz]; have := hcr.1; simp at this; exact this.symm
      unfold overwrite at hov
      split at hov <;> (try cases hov)
      rename_i hle
      have hcl := hc.1
      have hle' : off + 0 + v'.cells.toList.length ≤ c'.size := by simp at hcl hle; simp [hsz']; omega
      have hfold := foldl_set off v'.cells.toList 0 c' hle'
      have hc2 : LRel β (c.take off ++ v.cells.toList ++ c.drop (off + v.cells.toList.length)) ((v'.cells.toList.zipIdx 0).foldl (fun (cs : Array Value) (x : Value × Nat) => cs.setIfInBounds (off + x.2) x.1) c').toList := by
        rw [hfold]
        have hl2 := hcr.1
        rw [← hl2]
        exact ((hc.take _).append hcr).append (hc.drop _)
      obtain ⟨d', r1, r2⟩ := fill_snd ps qs _ d _ (by simpa using hl) (fun j p q a b => hp (j + 1) p q (by simpa using a) (by simpa using b)) hc2 hf
      refine ⟨d', ?_, r2⟩
      simp only [Go.Instr.fill, h1]
      rw [if_neg (by simp [hsz'] at hle' ⊢; omega)]
      rw [← r1]
      congr 1
      rw [← Array.foldl_toList, Array.toList_zipIdx]

theorem partsV_spec {env : Env} {a : Act} (he : EnvRel β env a.tmps) : ∀ (l : List (Nat × Nat × Operand)) (ps : List (Nat × Nat × Value)), partsV env l = some ps →
    ps.length = l.length ∧ ∀ (j : Nat) (p : Nat × Nat × Value) (q : Nat × Nat × Operand), ps[j]? = some p → l[j]? = some q → p.1 = q.1 ∧ p.2.1 = q.2.1 ∧ VRel β p.2.2 (a.eval q.2.2)
  | [], ps, h => by simp [partsV] at h; subst h; exact ⟨rfl, fun j p q x => by simp at x⟩
  | (o, s, x) :: r, ps, h => by
    simp only [partsV] at h
    split at h <;> (try cases h)
    rename_i v vs h1 h2
    obtain ⟨r1, r2⟩ := partsV_spec he r vs h2
    refine ⟨by simp [r1], fun j p q x y => ?_⟩
    cases j with
    | zero => simp at x y; subst x; subst y; exact ⟨rfl, rfl, opv_rel he h1⟩
    | succ j => simp at x y; exact r2 j p q x y

theorem fieldPlaces_spec (fields : Array Field) : ∀ (l : List (Nat × Operand)) (ps : List (Nat × Nat × Operand)), fieldPlaces P fields l = some ps →
    ps.length = l.length ∧ ∀ (j : Nat) (p : Nat × Nat × Operand) (q : Nat × Operand), ps[j]? = some p → l[j]? = some q → p.2.2 = q.2 ∧ ∃ f i, fields[q.1]? = some f ∧ P.info? f.type = some i ∧ p.1 = f.offset ∧ p.2.1 = i.size
  | [], ps, h => by simp [fieldPlaces] at h; subst h; exact ⟨rfl, fun j p q x => by simp at x⟩
  | (i, x) :: r, ps, h => by
    simp only [fieldPlaces] at h
    split at h <;> (try cases h)
    rename_i f vs h1 h2
    split at h <;> (try cases h)
    rename_i inf h3
    obtain ⟨r1, r2⟩ := fieldPlaces_spec fields r vs h2
    refine ⟨by simp [r1], fun j p q x y => ?_⟩
    cases j with
    | zero => simp at x y; subst x; subst y; exact ⟨rfl, f, inf, h1, h3, rfl, rfl⟩
    | succ j => simp at x y; exact r2 j p q x y

theorem run_places (fields : Array Field) (hs : sizesOk P fields = true) :
    ∃ places : Array (Nat × Nat), (fields.mapM (m := Sem) fun (f : Field) => do pure (f.offset, ← sizeOf f.type)).run P w = .ok places w ∧ ∀ (i : Nat) (f : Field) (inf : TypeInfo), fields[i]? = some f → P.info? f.type = some inf → places[i]? = some (f.offset, inf.size) := by
  have key : ∀ (l : List Field), (∀ f ∈ l, (P.info? f.type).isSome = true) → ∃ pl : List (Nat × Nat), (l.mapM (m := Sem) fun (f : Field) => do pure (f.offset, ← sizeOf f.type)).run P w = .ok pl w ∧
      ∀ (i : Nat) (f : Field) (inf : TypeInfo), l[i]? = some f → P.info? f.type = some inf → pl[i]? = some (f.offset, inf.size) := by
    intro l
    induction l with
    | nil => intro _; exact ⟨[], by simp, fun i f inf h => by simp at h⟩
    | cons f l ih =>
      intro h
      obtain ⟨pl, h1, h2⟩ := ih (fun g hg => h g (List.mem_cons_of_mem _ hg))
      obtain ⟨inf, hi⟩ := Option.isSome_iff_exists.1 (h f (List.mem_cons_self ..))
      refine ⟨(f.offset, inf.size) :: pl, by rw [List.mapM_cons]; simp only [Sem.run_bind, run_size hi, Result.andThen_ok, Sem.run_pure, h1], fun i g j hg hj => ?_⟩
      cases i with
      | zero => simp at hg; subst hg; rw [hi] at hj; cases hj; rfl
      | succ i => simp at hg; simpa using h2 i g j hg hj
  unfold sizesOk at hs
  obtain ⟨pl, h1, h2⟩ := key fields.toList (by
    intro f hf
    have := Array.all_eq_true_iff_forall_mem.1 hs f (by simpa using hf)
    exact this)
  refine ⟨pl.toArray, ?_, fun i f inf hf hi => by simpa using h2 i f inf (by simpa using hf) hi⟩
  rw [Array.mapM_eq_mapM_toList]
  simp only [Sem.run_map, h1, Result.andThen_ok]

theorem snd_buildS (h : Rel P Fz w0 β H w) (he : EnvRel β env a.tmps) {t : TypeId} {parts : Array (Nat × Operand)} {i : TypeInfo} {z : Value} {fields : Array Field} {ps : List (Nat × Nat × Operand)} (hi : P.info? t = some i)
    (hz : i.zero = some z) (hu : P.underlying t = some (.struct fields)) (hs : sizesOk P fields = true) (hp : fieldPlaces P fields parts.toList = some ps) (ho : o.op = .build t parts)
    (ha : aop env H (.build z.cells.toList ps) = some (res, H')) : RRel P Fz w0 β w H' res ((execOp a.eval o).run P w) := by
  simp only [aop] at ha
  split at ha <;> (try cases ha)
  rename_i vs hv
  split at ha <;> (try cases ha)
  rename_i hzc
  obtain ⟨c, hc, e⟩ := map_some ha
  cases e
  obtain ⟨q1, q2⟩ := partsV_spec he ps vs hv
  obtain ⟨f1, f2⟩ := fieldPlaces_spec fields _ ps hp
  obtain ⟨places, p1, p2⟩ := run_places (P := P) (w := w) fields hs
  obtain ⟨d', r1, r2⟩ := fill_snd (place := (places[·]?)) vs (parts.map fun (i, x) => (i, a.eval x)).toList z.cells.toList c z.cells (by simp at f1 ⊢; omega) (by
    intro j p q x y
    simp only [Array.toList_map, List.getElem?_map] at y
    obtain ⟨q0, hq0, rfl⟩ := map_some y
    have hjl : j < ps.length := by rw [f1]; exact (List.getElem?_eq_some_iff.1 hq0).1
    obtain ⟨b1, b2, b3⟩ := q2 j p _ x (List.getElem?_eq_getElem hjl)
    obtain ⟨g1, f, inf, g2, g3, g4, g5⟩ := f2 j _ q0 (List.getElem?_eq_getElem hjl) hq0
    refine ⟨?_, by rw [g1] at b3; exact b3⟩
    rw [b1, b2, g4, g5]
    exact p2 _ f inf g2 g3) (clo1s_rel β hzc) hc
  refine RRel.pure h (v' := .agg d') (by have := r2.agg; simpa using this) ?_
  unfold execOp; rw [ho]
  simp only [Go.Instr.build, Sem.run_bind, run_zero hi hz, run_und hu, Result.andThen_ok]
  simp only [Sem.run_bind, p1, Result.andThen_ok, r1]
  rfl
end
end Go.E

namespace Go.E
section
variable {P : Program} {Fz : Fr} {w0 : World} {β : Bt} {H H' : AHeap} {w : World} {env : Env} {a : Act} {o : Oper} {res : Res}

theorem partsI_spec {env : Env} {a : Act} (he : EnvRel β env a.tmps) (sz : Nat) (l : List (Nat × Operand)) (vs : List (Nat × Nat × Value)) (hv : partsV env (l.map fun x => (x.1 * sz, sz, x.2)) = some vs) :
    vs.length = (l.map fun x => (x.1, a.eval x.2)).length ∧ ∀ (j : Nat) (p : Nat × Nat × Value) (q : Nat × Value), vs[j]? = some p → (l.map fun x => (x.1, a.eval x.2))[j]? = some q →
      (fun i => some (i * sz, sz)) q.1 = some (p.1, p.2.1) ∧ VRel β p.2.2 q.2 := by
  obtain ⟨q1, q2⟩ := partsV_spec he _ vs hv
  refine ⟨by simpa using q1, fun j p q x y => ?_⟩
  simp only [List.getElem?_map] at y
  obtain ⟨q0, hq0, rfl⟩ := map_some y
  obtain ⟨b1, b2, b3⟩ := q2 j p (q0.1 * sz, sz, q0.2) x (by simp [List.getElem?_map, hq0])
  exact ⟨by simp only; rw [b1, b2], b3⟩

theorem snd_buildA (h : Rel P Fz w0 β H w) (he : EnvRel β env a.tmps) {t e : TypeId} {n : Nat} {parts : Array (Nat × Operand)} {i ei : TypeInfo} {z : Value} (hi : P.info? t = some i)
    (hz : i.zero = some z) (hu : P.underlying t = some (.array n e)) (hei : P.info? e = some ei) (ho : o.op = .build t parts)
    (ha : aop env H (.build z.cells.toList (parts.toList.map fun x => (x.1 * ei.size, ei.size, x.2))) = some (res, H')) : RRel P Fz w0 β w H' res ((execOp a.eval o).run P w) := by
  simp only [aop] at ha
  split at ha <;> (try cases ha)
  rename_i vs hv
  split at ha <;> (try cases ha)
  rename_i hzc
  obtain ⟨c, hc, e⟩ := map_some ha
  cases e
  obtain ⟨q1, q2⟩ := partsI_spec he ei.size parts.toList vs hv
  obtain ⟨d', r1, r2⟩ := fill_snd (place := fun i => some (i * ei.size, ei.size)) vs _ z.cells.toList c z.cells q1 q2 (clo1s_rel β hzc) hc
  refine RRel.pure h (v' := .agg d') (by have := r2.agg; simpa using this) ?_
  unfold execOp; rw [ho]
  simp only [Go.Instr.build, Sem.run_bind, run_zero hi hz, run_und hu, Result.andThen_ok, run_size hei, Array.toList_map]
  rw [r1]; rfl

theorem mkCells_rel (β : Bt) {z : Array Value} {n : Nat} (hz : z.toList.all clo1 = true) (hn : z.toList.length ≠ 0 ∨ n = 0) : LRel β (mkCells z.toList n) ((Array.range n).map (z[· % z.size]!)).toList := by
  refine ⟨by simp [mkCells], fun i v v' x y => ?_⟩
  simp only [mkCells, List.getElem?_map] at x
  obtain ⟨k, hk, rfl⟩ := map_some x
  simp only [Array.toList_map, List.getElem?_map, Array.toList_range] at y
  obtain ⟨k', hk', rfl⟩ := map_some y
  rw [hk] at hk'; cases hk'
  have hi := (List.getElem?_eq_some_iff.1 hk).1
  have hne : z.size ≠ 0 := by
    rcases hn with h | h
    · simpa using h
    · rw [List.length_range] at hi; omega
  have hlt : k % z.size < z.size := Nat.mod_lt _ (by omega)
  rw [getElem!_pos z (k % z.size) hlt]
  have e1 : z.toList.getD (k % z.toList.length) default = z[k % z.size] := by
    rw [List.getD_eq_getElem?_getD, Array.length_toList, Array.getElem?_toList, Array.getElem?_eq_getElem hlt]; rfl
  rw [e1]
  exact clo1_rel β ((List.all_eq_true.1 hz) _ (by simp))

theorem snd_buildSlice (h : Rel P Fz w0 β H w) (he : EnvRel β env a.tmps) {t e : TypeId} {n : Nat} {parts : Array (Nat × Operand)} {i : TypeInfo} {z : Value} (hi : P.info? e = some i)
    (hz : i.zero = some z) (hu : P.underlying t = some (.slice e)) (ho : o.op = .buildSlice t n parts)
    (ha : aop env H (.buildSlice e i.size n z.cells.toList (parts.toList.map fun x => (x.1 * i.size, i.size, x.2))) = some (res, H')) : RRel P Fz w0 β w H' res ((execOp a.eval o).run P w) := by
  simp only [aop] at ha
  split at ha <;> (try cases ha)
  rename_i vs hv
  split at ha <;> (try cases ha)
  rename_i hzc
  split at ha <;> (try cases ha)
  rename_i c hc
  split at ha <;> (try cases ha)
  obtain ⟨hz1, hz2, hz3⟩ := hzc
  obtain ⟨q1, q2⟩ := partsI_spec he i.size parts.toList vs hv
  have hmk := mkCells_rel β hz1 hz2
  obtain ⟨d', r1, r2⟩ := fill_snd (place := fun j => some (j * i.size, i.size)) vs _ _ c _ q1 q2 hmk hc
  obtain ⟨h1, h2⟩ := new_snd h (t := e) i.size true r2
  refine ⟨.slice (some ⟨w.heap.size, 0, none⟩) n n, _, _, ?_, h2, .sl (p := ⟨w.heap.size, 0, d'.size, i.size, true, false⟩) (Bt.upd_at _ _ _) (Nat.le_refl _) (Nat.le_refl _) (.inr rfl) (fun _ => rfl) (fun e => by cases e), h1⟩
  unfold execOp; rw [ho]
  simp only [Go.Instr.buildSlice, Sem.run_bind, run_und hu, Result.andThen_ok, run_size hi]
  rw [if_neg (by omega)]
  have e2 : (parts.map fun x => (x.1, a.eval x.2)).toList = parts.toList.map fun x => (x.1, a.eval x.2) := by simp
  rw [← e2] at r1
  by_cases hh : n * i.size = 0
  · rw [if_pos hh]
    have e3 : (Array.range (n * i.size)).map (fun x => (#[] : Array Value)[x % (#[] : Array Value).size]!) = (Array.range (n * i.size)).map (fun x => z.cells[x % z.cells.size]!) := by simp [hh]
    simp only [Sem.run_bind, Sem.run_pure, Result.andThen_ok, e3, r1]
    simp [newRow]
  · rw [if_neg hh]
    simp only [Sem.run_bind, run_zero hi hz, Sem.run_pure, Result.andThen_ok, r1]
    simp [newRow]

theorem nat?_snd {k hi : Nat} {v v' : Value} {code : BoundsCode} (h : nat? 0 v hi = some k) (hv : VRel β v v') : (Go.Instr.sliceBound v' hi code).run P w = .ok k w ∧ k ≤ hi := by
  unfold nat? at h
  split at h <;> (try cases h)
  rename_i kk i
  split at h <;> (try cases h)
  rename_i hb
  have := hv.invInt
  subst this
  have hb' : 0 ≤ i ∧ i ≤ (hi : Int) := ⟨by simpa using hb.1, hb.2⟩
  refine ⟨?_, by omega⟩
  simp only [Go.Instr.sliceBound, asIntOf, Sem.run_bind, Sem.run_pure, Result.andThen_ok]
  rw [if_pos hb']
  rfl

/-- The optional operands of a slice expression. -/
def ORelO (β : Bt) : Option Value → Option Value → Prop
  | none, none => True
  | some v, some v' => VRel β v v'
  | _, _ => False
theorem opvO_rel (he : EnvRel β env a.tmps) {x : Option Operand} {v : Option Value} (h : opvO env x = some v) : ORelO β v (x.map a.eval) := by
  cases x with
  | none => simp [opvO] at h; subst h; trivial
  | some x =>
    simp only [opvO] at h
    obtain ⟨u, hu, rfl⟩ := map_some h
    exact opv_rel he hu

/-- Low, high, max: logically, where the capacity is known to be at least c; really. -/
theorem bounds_snd {len ac rc : Nat} {lo hi mx lo' hi' mx' : Option Value} {l h : Nat} {m : Option Nat} (isSlice : Bool) (hb : bounds len ac lo hi mx = some (l, h, m)) (hc : ac ≤ rc) (hlen : len ≤ ac)
    (h1 : ORelO β lo lo') (h2 : ORelO β hi hi') (h3 : ORelO β mx mx') :
    (Go.Instr.sliceBounds isSlice len rc lo' hi' mx').run P w = .ok (l, h, m.getD rc) w ∧ l ≤ h ∧ h ≤ m.getD ac ∧ m.getD ac ≤ ac := by
  unfold bounds at hb
  split at hb <;> (try cases hb)
  rename_i m0 hm
  split at hb <;> (try cases hb)
  rename_i h0 hh
  split at hb <;> (try cases hb)
  rename_i l0 hl
  unfold Go.Instr.sliceBounds
  have up : ∀ {v v' : Value} {k : Nat} {code : BoundsCode}, nat? 0 v ac = some k → VRel β v v' → (Go.Instr.sliceBound v' rc code).run P w = .ok k w := by
    intro v v' k code hk hv
    refine (nat?_snd (code := code) (hi := rc) ?_ hv).1
    unfold nat? at hk ⊢
    split at hk <;> (try cases hk)
    split at hk <;> (try cases hk)
    rw [if_pos (by omega)]
  cases mx with
  | none =>
    cases mx' <;> simp only [ORelO] at h3
    simp only at hm; cases hm
    simp only [Option.getD_none] at hh ⊢
    cases hi with
    | none =>
      cases hi' <;> simp only [ORelO] at h2
      simp at hh; subst hh
      cases lo with
      | none =>
        cases lo' <;> simp only [ORelO] at h1
        simp at hl; subst hl
        simp; omega
      | some lv =>
        cases lo' <;> simp only [ORelO] at h1
        simp only at hl
        obtain ⟨r1, r2⟩ := nat?_snd (P := P) (w := w) (code := .sliceB) hl h1
        simp [r1]; omega
    | some hv =>
      cases hi' <;> simp only [ORelO] at h2
      simp only at hh
      obtain ⟨_, r2⟩ := nat?_snd (P := P) (w := w) (code := .sliceB) hh h2
      have r1 := up (code := if isSlice = true then .sliceAcap else .sliceAlen) hh h2
      cases lo with
      | none =>
        cases lo' <;> simp only [ORelO] at h1
        simp at hl; subst hl
        simp [r1]; omega
      | some lv =>
        cases lo' <;> simp only [ORelO] at h1
        simp only at hl
        obtain ⟨s1, s2⟩ := nat?_snd (P := P) (w := w) (code := .sliceB) hl h1
        simp [r1, s1]; omega
  | some mv =>
    cases mx' <;> simp only [ORelO] at h3
    simp only at hm
    obtain ⟨mk, hmk, e⟩ := map_some hm
    cases e
    obtain ⟨_, t2⟩ := nat?_snd (P := P) (w := w) (code := .sliceB) hmk h3
    have t1 := up (code := if isSlice = true then .slice3Acap else .slice3Alen) hmk h3
    simp only [Option.getD_some] at hh ⊢
    cases hi with
    | none => simp at hh
    | some hv =>
      cases hi' <;> simp only [ORelO] at h2
      simp only at hh
      obtain ⟨r1, r2⟩ := nat?_snd (P := P) (w := w) (code := .slice3B) hh h2
      cases lo with
      | none =>
        cases lo' <;> simp only [ORelO] at h1
        simp at hl; subst hl
        simp [t1, r1]; omega
      | some lv =>
        cases lo' <;> simp only [ORelO] at h1
        simp only at hl
        obtain ⟨s1, s2⟩ := nat?_snd (P := P) (w := w) (code := .slice3C) hl h1
        simp [t1, r1, s1]; omega
end
end Go.E

namespace Go.E
section
variable {P : Program} {Fz : Fr} {w0 : World} {β : Bt} {H H' : AHeap} {w : World} {env : Env} {a : Act} {o : Oper} {res : Res}

theorem snd_sliceStr (h : Rel P Fz w0 β H w) (he : EnvRel β env a.tmps) {t : TypeId} {x : Operand} {lo hi : Option Operand} (hu : P.underlying t = some .string)
    (ho : o.op = .slice t x lo hi none) (ha : aop env H (.sliceStr x lo hi) = some (res, H')) : RRel P Fz w0 β w H' res ((execOp a.eval o).run P w) := by
  simp only [aop] at ha
  split at ha <;> (try cases ha)
  rename_i s lv hv hx hl hh
  obtain ⟨⟨l, hi', m⟩, hb, e⟩ := map_some ha
  cases e
  have ex := (opv_rel he hx).invStr
  obtain ⟨r1, r2, r3, r4⟩ := bounds_snd (P := P) (w := w) (mx' := none) false hb (Nat.le_refl _) (Nat.le_refl _) (opvO_rel he hl) (opvO_rel he hh) trivial
  refine RRel.pure h (.string _) ?_
  unfold execOp; rw [ho]
  simp [Go.Instr.sliceAt, run_und hu, Go.Instr.slice, ex, r1]

theorem snd_sliceSl (h : Rel P Fz w0 β H w) (he : EnvRel β env a.tmps) {t e : TypeId} {i : TypeInfo} {x : Operand} {lo hi mx : Option Operand} (hu : P.underlying t = some (.slice e)) (hi' : P.info? e = some i)
    (ho : o.op = .slice t x lo hi mx) (ha : aop env H (.sliceSl i.size x lo hi mx) = some (res, H')) : RRel P Fz w0 β w H' res ((execOp a.eval o).run P w) := by
  simp only [aop] at ha
  split at ha <;> (try cases ha)
  rename_i ad len cap lv hv mv hx hl hh hm
  split at ha <;> (try cases ha)
  rename_i l hh2 m hb
  have hr := opv_rel he hx
  split at ha
  · split at ha <;> (try cases ha)
    obtain ⟨ex, e1, e2⟩ := hr.invSlN
    subst e1; subst e2
    obtain ⟨r1, r2, r3, r4⟩ := bounds_snd (P := P) (w := w) true hb (Nat.le_refl _) (Nat.le_refl _) (opvO_rel he hl) (opvO_rel he hh) (opvO_rel he hm)
    have e3 : m.getD 0 = 0 := by omega
    have e4 : hh2 = 0 := by omega
    have e5 : l = 0 := by omega
    subst e4; subst e5
    refine RRel.pure h .slN ?_
    unfold execOp; rw [ho]
    simp only [Go.Instr.sliceAt, Sem.run_bind, run_und hu, Result.andThen_ok, Go.Instr.slice, ex, r1, run_size hi', e3]
    simp
  · rename_i b off
    split at ha <;> (try cases ha)
    rename_i c t' e' ex r hg
    split at ha <;> (try cases ha)
    rename_i hsz
    obtain ⟨p, ro, rc, hb2, hy, h1, h2, h3, h4, h5⟩ := hr.invSl
    obtain ⟨q, rob, g1, g2, g3⟩ := h.live b _ hg
    rw [hb2] at g1; cases g1
    obtain ⟨_, _, _, pe, px, _, _⟩ := g3
    obtain ⟨r1, r2, r3, r4⟩ := bounds_snd (P := P) (w := w) true hb h2 h1 (opvO_rel he hl) (opvO_rel he hh) (opvO_rel he hm)
    have hmr : m.getD cap ≤ m.getD rc ∧ m.getD rc ≤ rc := by cases m <;> simp at r4 ⊢ <;> omega
    refine RRel.pure h (v' := .slice (if m.getD rc = l then some ⟨p.rb, ro, none⟩ else some ⟨p.rb, ro + l * i.size, none⟩) (hh2 - l) (m.getD rc - l)) ?_ ?_
    · by_cases hml : m.getD rc = l
      · rw [if_pos hml, hml, Nat.sub_self]
        have e1 : hh2 = l := by omega
        have e2 : m.getD cap - l = 0 := by omega
        rw [e1, e2, Nat.sub_self]
        exact .sl hb2 (Nat.le_refl _) (Nat.le_refl _) (.inl rfl) (fun _ => rfl) (fun hx' => by have := h5 hx'; have : 0 * p.e = 0 := Nat.zero_mul _; omega)
      · rw [if_neg hml]
        have hro : ro = p.base + off := h3.resolve_left (by omega)
        refine .sl hb2 (by omega) (by omega) (.inr (by rw [hro]; omega)) (fun hx' => ?_) (fun hx' => ?_)
        · have hrc := h4 hx'
          cases m with
          | none => simp at hmr ⊢; omega
          | some m => simp
        · have h6 := h5 hx'
          rw [px] at hx'
          have hse : e' = i.size := by
            rcases hsz with hs | hs
            · rw [hs] at hx'; cases hx'
            · exact hs
          rw [← pe] at hse
          rw [← hse]
          have h7 : l * p.e + (m.getD rc - l) * p.e = (m.getD rc) * p.e := by rw [← Nat.add_mul]; congr 1; omega
          have h8 : m.getD rc * p.e ≤ rc * p.e := Nat.mul_le_mul_right _ hmr.2
          omega
    · unfold execOp; rw [ho]
      simp only [Go.Instr.sliceAt, Sem.run_bind, run_und hu, Result.andThen_ok, Go.Instr.slice, hy, r1, run_size hi', Sem.run_pure]
      congr 3
      by_cases hml : m.getD rc = l
      · simp [hml]
      · simp [hml, addr_add]
  · cases ha

theorem snd_sliceArr (h : Rel P Fz w0 β H w) (he : EnvRel β env a.tmps) {t e : TypeId} {n : Nat} {i : TypeInfo} {x : Operand} {lo hi mx : Option Operand}
    (hu : P.underlying t = some (.array n e) ∨ ∃ arr, P.underlying t = some (.pointer arr) ∧ P.underlying arr = some (.array n e)) (hi' : P.info? e = some i)
    (ho : o.op = .slice t x lo hi mx) (ha : aop env H (.sliceArr n i.size x lo hi mx) = some (res, H')) : RRel P Fz w0 β w H' res ((execOp a.eval o).run P w) := by
  simp only [aop] at ha
  split at ha <;> (try cases ha)
  rename_i b off lv hv mv hx hl hh hm
  split at ha <;> (try cases ha)
  rename_i l hh2 m hb
  split at ha <;> (try cases ha)
  rename_i c t' e' r hg
  split at ha <;> (try cases ha)
  obtain ⟨p, hb2, hy⟩ := (opv_rel he hx).invPtr
  obtain ⟨q, rob, g1, g2, g3⟩ := h.live b _ hg
  rw [hb2] at g1; cases g1
  obtain ⟨_, _, _, pe, px, _, _⟩ := g3
  obtain ⟨r1, r2, r3, r4⟩ := bounds_snd (P := P) (w := w) false hb (Nat.le_refl _) (Nat.le_refl _) (opvO_rel he hl) (opvO_rel he hh) (opvO_rel he hm)
  refine RRel.pure h (v' := .slice (some (if m.getD n = l then ⟨p.rb, p.base + off, none⟩ else (⟨p.rb, p.base + off, none⟩ : Addr).add (l * i.size))) (hh2 - l) (m.getD n - l)) ?_ ?_
  · by_cases hml : m.getD n = l
    · rw [if_pos hml]
      have e1 : hh2 = l := by omega
      have e2 : m.getD n - l = 0 := by omega
      rw [e1, e2, Nat.sub_self]
      exact .sl hb2 (Nat.le_refl _) (Nat.le_refl _) (.inl rfl) (fun _ => rfl) (fun hx' => by rw [px] at hx'; cases hx')
    · rw [if_neg hml, addr_add]
      exact .sl hb2 (by omega) (Nat.le_refl _) (.inr (by omega)) (fun _ => rfl) (fun hx' => by rw [px] at hx'; cases hx')
  · unfold execOp; rw [ho]
    rcases hu with hu | ⟨arr, hu, hu2⟩
    · simp only [Go.Instr.sliceAt, Sem.run_bind, run_und hu, Result.andThen_ok, hy, Go.Instr.sureAddr, r1, run_size hi', Sem.run_pure]
    · simp only [Go.Instr.sliceAt, Go.Instr.slice, Sem.run_bind, run_und hu, run_und hu2, Result.andThen_ok, hy, asAddr, r1, run_size hi', Sem.run_pure]

theorem snd_arrAt (h : Rel P Fz w0 β H w) (he : EnvRel β env a.tmps) {t e : TypeId} {n : Nat} {x i : Operand} {inf : TypeInfo} {ag : Option Nat} (hu : P.underlying t = some (.array n e)) (hi : P.info? e = some inf)
    (hag : aggSize P e = some ag) (ho : o.op = .index t x i) (ha : aop env H (.arrAt n inf.size ag.isSome x i) = some (res, H')) : RRel P Fz w0 β w H' res ((execOp a.eval o).run P w) := by
  simp only [aop] at ha
  split at ha <;> (try cases ha)
  rename_i cs k j hx hj
  split at ha <;> (try cases ha)
  rename_i hlt
  obtain ⟨cs', e1, l1⟩ := (opv_rel he hx).aggList
  have hz := (opv_rel he hj).invInt
  cases ag with
  | none =>
    simp only [Option.isSome_none, Bool.false_eq_true, if_false] at ha
    obtain ⟨v, hv, e⟩ := map_some ha
    cases e
    obtain ⟨v', h1, h2⟩ := l1.get hv
    simp only [Array.getElem?_toList] at h1
    refine RRel.pure h h2 ?_
    unfold execOp; rw [ho]
    simp [Go.Instr.index, hz, asIntOf, run_und hu, e1, hlt, run_size hi, Go.part, run_agg1 hag, h1]
  | some s =>
    simp only [Option.isSome_some, if_true] at ha
    split at ha <;> (try cases ha)
    refine RRel.pure h ((l1.drop (j.toNat * inf.size)).take inf.size).agg ?_
    have hs : s = inf.size := by
      unfold aggSize at hag
      split at hag
      · rename_i i' hd hi2; cases hag; rw [hi] at hi2; cases hi2; rfl
      · rename_i i' hd hi2; cases hag; rw [hi] at hi2; cases hi2; rfl
      · cases hag
      · cases hag
    unfold execOp; rw [ho]
    simp only [Go.Instr.index, Sem.run_bind, hz, asIntOf, Sem.run_pure, run_und hu, e1, Result.andThen_ok]
    rw [if_pos hlt]
    simp only [Sem.run_bind, run_size hi, Go.part, (run_aggN hag).1, Result.andThen_ok, if_true, Sem.run_pure]
    congr 3
    rw [← Array.toList_inj]
    simp [List.extract_eq_take_drop]

theorem snd_ext2 (h : Rel P Fz w0 β H w) (he : EnvRel β env a.tmps) {t : TypeId} {as : TypeId} {x : Operand} {ok : Bool} {u : TypeDesc} {i : TypeInfo} {z : Value} (hu : P.underlying as = some u) (hn : ∀ ms, u ≠ .interface ms)
    (hi : P.info? as = some i) (hz : i.zero = some z) (ho : o.op = .typeAssert x t as ok) (ha : aop env H (.assert as z ok x) = some (res, H')) : RRel P Fz w0 β w H' res ((execOp a.eval o).run P w) := by
  simp only [aop] at ha
  split at ha <;> (try cases ha)
  · rename_i t2 v hx
    have hr := opv_rel he hx
    cases hy : a.eval x <;> rw [hy] at hr <;> cases hr
    rename_i v' hv
    split at ha
    · rename_i ht; subst ht
      cases ha
      refine RRel.pure h (v' := if ok then .tuple #[v', .bool true] else v') ?_ ?_
      · cases ok
        · exact hv
        · exact LRel.tuple (LRel.cons hv (LRel.cons (.bool true) (LRel.nil β)))
      · unfold execOp; rw [ho]
        simp only [Go.Instr.typeAssert, Sem.run_bind, run_und hu, Result.andThen_ok, hy]
        simp [if_pos]
    · rename_i ht
      split at ha <;> (try cases ha)
      rename_i hc
      refine RRel.pure h (v' := .tuple #[z, .bool false]) (LRel.tuple (LRel.cons (clo_rel β hc.2) (LRel.cons (.bool false) (LRel.nil β)))) ?_
      unfold execOp; rw [ho]
      simp only [Go.Instr.typeAssert, Sem.run_bind, run_und hu, Result.andThen_ok, hy]
      simp [ht, hc.1, run_zero hi hz]
  · rename_i hx
    have hr := opv_rel he hx
    cases hy : a.eval x <;> rw [hy] at hr <;> cases hr
    split at ha <;> (try cases ha)
    rename_i hc
    refine RRel.pure h (v' := .tuple #[z, .bool false]) (LRel.tuple (LRel.cons (clo_rel β hc.2) (LRel.cons (.bool false) (LRel.nil β)))) ?_
    unfold execOp; rw [ho]
    simp only [Go.Instr.typeAssert, Sem.run_bind, run_und hu, Result.andThen_ok, hy]
    simp [hc.1, run_zero hi hz]

theorem snd_pan (h : Rel P Fz w0 β H w) (he : EnvRel β env a.tmps) {x : Operand} (ho : o.op = .panic x) (ha : aop env H (.pan x) = some (res, H')) :
    RRel P Fz w0 β w H' res ((execOp a.eval o).run P w) := by
  simp only [aop] at ha
  split at ha <;> (try cases ha)
  rename_i t v hx
  have hr := opv_rel he hx
  cases hy : a.eval x <;> rw [hy] at hr <;> cases hr
  rename_i v' hv
  refine ⟨_, ?_, .iface hv, h⟩
  unfold execOp; rw [ho]
  simp [Go.Instr.panic, hy, goPanic]
end
end Go.E

namespace Go.E
section
variable {P : Program} {Fz : Fr} {w0 : World} {β : Bt} {H H' : AHeap} {w : World} {env : Env} {a : Act} {o : Oper} {res : Res}

/-- A block of cells, known as logically told. -/
theorem block_of (h : Rel P Fz w0 β H w) {i : Nat} {c : List Value} {t : TypeId} {e : Nat} {ex r : Bool} {p : Pl} (hg : H.get i = some (.cells c t e ex r)) (hb : β i = some p) :
    ∃ rc fr, w.heap[p.rb]? = some (.cells rc t fr) ∧ p.e = e ∧ p.ex = ex ∧ p.ro = r ∧ rc.size = p.sz ∧ p.base + c.length ≤ p.sz ∧
      (∀ (j : Nat) (v v' : Value), c[j]? = some v → rc[p.base + j]? = some v' → VRel β v v') ∧ (r = false → fr.1 = fr.2 ∨ rc.size ≤ fr.1) := by
  obtain ⟨q, ro, h1, h2, h3⟩ := h.live i _ hg
  rw [hb] at h1; cases h1
  obtain ⟨rc, fr, rfl, g⟩ := h3
  exact ⟨rc, fr, h2, g⟩

/-- The first cells of a source. -/
theorem src_snd (h : Rel P Fz w0 β H w) {size n m : Nat} {v v' : Value} {cs : List Value} (hv : VRel β v v') (hl : srcLen v = some m) (hn : n ≤ m) (hs : srcCells H size n v = some cs) :
    ∃ cs' : Array Value, (Builtin.firstCells size n v').run P w = .ok cs' w ∧ LRel β cs cs'.toList ∧ (Builtin.lenOf v').run P w = .ok m w := by
  unfold srcCells at hs
  split at hs
  · cases hs
    obtain ⟨e1, _, _⟩ := hv.invSlN
    subst e1
    simp only [srcLen] at hl; cases hl
    exact ⟨#[], by simp [Builtin.firstCells], LRel.nil β, by simp [Builtin.lenOf]⟩
  · rename_i i off len cap
    simp only [srcLen] at hl; cases hl
    split at hs <;> (try cases hs)
    rename_i c t e ex r hg
    unfold piece at hs
    split at hs <;> (try cases hs)
    rename_i hle
    obtain ⟨p, ro, rc, hb, hy, h1, h2, h3, h4, h5⟩ := hv.invSl
    obtain ⟨rcs, fr, g1, g2, g3, g4, g5, g6, g7, g8⟩ := block_of h hg hb
    subst hy
    refine ⟨rcs.extract ro (ro + n * size), ?_, ?_, by simp [Builtin.lenOf]⟩
    · simp only [Builtin.firstCells]
      by_cases hn0 : n = 0
      · subst hn0
        simp [Go.loadCells, loadCellsFrom]; omega
      · have hro : ro = p.base + off := h3.resolve_left (by omega)
        rw [hro]
        exact run_loadC g1 (by omega)
    · by_cases hn0 : n = 0
      · subst hn0
        simp
        exact LRel.nil β
      · have hro : ro = p.base + off := h3.resolve_left (by omega)
        rw [hro]
        refine ⟨by simp; omega, fun j u u' x y => ?_⟩
        simp only [List.getElem?_take, List.getElem?_drop] at x
        simp only [Array.toList_extract, List.extract_eq_take_drop, List.getElem?_take, List.getElem?_drop, Array.getElem?_toList] at y
        split at x
        · split at y
          · exact g7 (off + j) u u' x (by rw [← y]; congr 1; omega)
          · cases y
        · cases x
  · rename_i s
    simp only [srcLen] at hl; cases hl
    split at hs <;> (try cases hs)
    rename_i hsz; subst hsz
    have := hv.invStr
    subst this
    have key : ((s.extract 0 n).data.map fun b => Value.int .u8 b.toNat).toList = (s.data.toList.take n).map fun b => Value.int .u8 b.toNat := by
      rw [Array.toList_map]
      congr 1
      simp [ByteArray.data_extract, List.extract_eq_take_drop]
    refine ⟨(s.extract 0 n).data.map fun b => .int .u8 b.toNat, by simp [Builtin.firstCells], ?_, by simp [Builtin.lenOf]⟩
    rw [key]
    refine ⟨rfl, fun j u u' x y => ?_⟩
    rw [x] at y; cases y
    simp only [List.getElem?_map] at x
    obtain ⟨b, _, rfl⟩ := map_some x
    exact .int _ _
  · cases hs

theorem run_builtin {c : Call} {b : Builtin} (hc : c.callee = .builtin b) (ho : o.op = .call c) :
    ∃ consts, (execOp a.eval o).run P w = (builtin b c.argTypes o.type consts (c.args.map a.eval)).run P w := by
  obtain ⟨cal, args, at'⟩ := c
  simp only at hc
  subst hc
  refine ⟨args.map fun | .const _ => true | _ => false, ?_⟩
  unfold execOp; rw [ho]
  simp only [resolve, Sem.run_bind, Sem.run_pure, Result.andThen_ok, invoke]
  rfl

theorem args1 {c : Call} {x : Operand} {t : TypeId} (hargs : c.args.toList = [x]) (hty : c.argTypes.toList = [t]) : c.args.map a.eval = #[a.eval x] ∧ c.argTypes = #[t] := by
  have hA : c.args = #[x] := by rw [← Array.toList_inj]; simp [hargs]
  have hT : c.argTypes = #[t] := by rw [← Array.toList_inj]; simp [hty]
  rw [hA, hT]; simp
theorem args2 {c : Call} {x y : Operand} (hargs : c.args.toList = [x, y]) : c.args.map a.eval = #[a.eval x, a.eval y] := by
  have hA : c.args = #[x, y] := by rw [← Array.toList_inj]; simp [hargs]
  rw [hA]; simp
theorem types2 {c : Call} {t u : TypeId} (hty : c.argTypes.toList = [t, u]) : c.argTypes = #[t, u] := by rw [← Array.toList_inj]; simp [hty]

theorem snd_len (h : Rel P Fz w0 β H w) (he : EnvRel β env a.tmps) {t : TypeId} {u : TypeDesc} {x : Operand} {c : Call} (hu : P.underlying t = some u)
    (hc : c.callee = .builtin .len) (hargs : c.args.toList = [x]) (hty : c.argTypes.toList = [t]) (ho : o.op = .call c) (ha : aop env H (.len u x) = some (res, H')) :
    RRel P Fz w0 β w H' res ((execOp a.eval o).run P w) := by
  obtain ⟨consts, hrun⟩ := run_builtin (P := P) (w := w) (a := a) hc ho
  obtain ⟨hA, hT⟩ := args1 (a := a) hargs hty
  rw [hA, hT] at hrun
  simp only [aop] at ha
  split at ha <;> (try cases ha)
  · rename_i s hx
    have := (opv_rel he hx).invStr
    refine RRel.pure h (.int _ _) ?_
    rw [hrun]; simp [builtin, Builtin.len_, run_und hu, this, goInt]
  · rename_i e ad n cp hx
    have hr := opv_rel he hx
    refine RRel.pure h (.int .i64 n) ?_
    rw [hrun]
    cases hy : a.eval x <;> rw [hy] at hr <;> cases hr
    all_goals simp [builtin, Builtin.len_, run_und hu, goInt]
  · rename_i k e hx
    have := (opv_rel he hx).invMapN
    refine RRel.pure h (.int _ _) ?_
    rw [hrun]; simp [builtin, Builtin.len_, run_und hu, this, goInt]
  · rename_i k e i hx
    split at ha <;> (try cases ha)
    rename_i es clk hg
    obtain ⟨p, hb, hy⟩ := (opv_rel he hx).invMap
    obtain ⟨q, ro, h1, h2, h3⟩ := h.live i _ hg
    rw [hb] at h1; cases h1
    obtain ⟨_, res', rfl, hsz, _⟩ := h3
    refine RRel.pure h (.int _ _) ?_
    rw [hrun]; simp [builtin, Builtin.len_, run_und hu, hy, goInt, run_getO h2 (by simp), hsz]

theorem snd_cap (h : Rel P Fz w0 β H w) (he : EnvRel β env a.tmps) {t e : TypeId} {x : Operand} {c : Call} (hu : P.underlying t = some (.slice e))
    (hc : c.callee = .builtin .cap) (hargs : c.args.toList = [x]) (hty : c.argTypes.toList = [t]) (ho : o.op = .call c) (ha : aop env H (.cap x) = some (res, H')) :
    RRel P Fz w0 β w H' res ((execOp a.eval o).run P w) := by
  obtain ⟨consts, hrun⟩ := run_builtin (P := P) (w := w) (a := a) hc ho
  obtain ⟨hA, hT⟩ := args1 (a := a) hargs hty
  rw [hA, hT] at hrun
  simp only [aop] at ha
  split at ha <;> (try cases ha)
  · rename_i m n hx
    obtain ⟨hy, _, e2⟩ := (opv_rel he hx).invSlN
    subst e2
    refine RRel.pure h (.int .i64 0) ?_
    rw [hrun]; simp [builtin, Builtin.cap_, run_und hu, hy, goInt]
  · rename_i i off m n hx
    split at ha <;> (try cases ha)
    rename_i c t' e' r hg
    obtain ⟨p, ro, rc, hb, hy, h1, h2, h3, h4, h5⟩ := (opv_rel he hx).invSl
    obtain ⟨rcs, fr, g1, g2, g3, _⟩ := block_of h hg hb
    have := h4 g3
    refine RRel.pure h (.int .i64 n) ?_
    rw [hrun]; simp [builtin, Builtin.cap_, run_und hu, hy, goInt, this]

theorem snd_min (h : Rel P Fz w0 β H w) (he : EnvRel β env a.tmps) {x y : Operand} {c : Call} (hc : c.callee = .builtin .min) (hargs : c.args.toList = [x, y]) (ho : o.op = .call c)
    (ha : aop env H (.min2 x y) = some (res, H')) : RRel P Fz w0 β w H' res ((execOp a.eval o).run P w) := by
  obtain ⟨consts, hrun⟩ := run_builtin (P := P) (w := w) (a := a) hc ho
  rw [args2 (a := a) hargs] at hrun
  simp only [aop] at ha
  split at ha <;> (try cases ha)
  rename_i k m k' n hx hy
  have e1 := (opv_rel he hx).invInt
  have e2 := (opv_rel he hy).invInt
  refine RRel.pure h (.int _ _) ?_
  rw [hrun]; simp [builtin, Builtin.min_, Builtin.min2, e1, e2]
theorem snd_max (h : Rel P Fz w0 β H w) (he : EnvRel β env a.tmps) {x y : Operand} {c : Call} (hc : c.callee = .builtin .max) (hargs : c.args.toList = [x, y]) (ho : o.op = .call c)
    (ha : aop env H (.max2 x y) = some (res, H')) : RRel P Fz w0 β w H' res ((execOp a.eval o).run P w) := by
  obtain ⟨consts, hrun⟩ := run_builtin (P := P) (w := w) (a := a) hc ho
  rw [args2 (a := a) hargs] at hrun
  simp only [aop] at ha
  split at ha <;> (try cases ha)
  rename_i k m k' n hx hy
  have e1 := (opv_rel he hx).invInt
  have e2 := (opv_rel he hy).invInt
  refine RRel.pure h (.int _ _) ?_
  rw [hrun]; simp [builtin, Builtin.max_, Builtin.max2, e1, e2]

theorem snd_copy (h : Rel P Fz w0 β H w) (he : EnvRel β env a.tmps) {t t2 e : TypeId} {i : TypeInfo} {x y : Operand} {c : Call} (hu : P.underlying t = some (.slice e)) (hi : P.info? e = some i)
    (hc : c.callee = .builtin .copy) (hargs : c.args.toList = [x, y]) (hty : c.argTypes.toList = [t, t2]) (ho : o.op = .call c) (ha : aop env H (.copy i.size x y) = some (res, H')) :
    RRel P Fz w0 β w H' res ((execOp a.eval o).run P w) := by
  obtain ⟨consts, hrun⟩ := run_builtin (P := P) (w := w) (a := a) hc ho
  rw [args2 (a := a) hargs, types2 hty] at hrun
  simp only [aop] at ha
  split at ha <;> (try cases ha)
  rename_i ad len cp sv hx hy
  split at ha <;> (try cases ha)
  rename_i n hn
  split at ha <;> (try cases ha)
  rename_i cs hcs
  have hr := opv_rel he hx
  obtain ⟨cs', s1, s2, s3⟩ := src_snd h (opv_rel he hy) hn (Nat.min_le_left n len) hcs
  have hmin : n.min len = min n len := rfl
  split at ha
  · rename_i b off
    obtain ⟨p, ro, rc, hb, hy2, h1, h2, h3, h4, h5⟩ := hr.invSl
    split at ha
    · rename_i hz
      cases ha
      refine RRel.pure h (.int _ _) ?_
      rw [hrun]
      have e0 : cs'.toList = [] := by
        have e1 := s2.1
        have e2 : cs.length = 0 := by
          unfold srcCells at hcs
          rw [hz] at hcs
          split at hcs <;> (try cases hcs)
          · rfl
          · split at hcs <;> (try cases hcs)
            unfold piece at hcs
            split at hcs <;> cases hcs
            simp
          · split at hcs <;> cases hcs
            simp
        rw [e2] at e1
        exact List.length_eq_zero_iff.1 e1.symm
      have e1 : cs' = #[] := by rw [← Array.toList_inj]; exact e0
      rw [hz] at s1 hmin
      simp [builtin, Builtin.copy_, run_und hu, hy2, s3, hmin, s1, run_size hi, e1, Go.storeCells, goInt]
    · rename_i hz
      obtain ⟨H2, hs, e⟩ := map_some ha
      cases e
      have hro : ro = p.base + off := h3.resolve_left (by omega)
      subst hro
      obtain ⟨b2, off2, w', q1, q2, q3⟩ := store_snd h (v' := .pointer (some ⟨p.rb, p.base + off, none⟩)) (.ptr off hb) s2 hs
      cases q1
      refine ⟨.int .i64 (min n len : Nat), w', β, ?_, Bt.le_refl β, .int _ _, q3⟩
      rw [hrun]
      simp [builtin, Builtin.copy_, run_und hu, hy2, s3, hmin, s1, run_size hi, q2, goInt]
  · split at ha <;> (try cases ha)
    obtain ⟨hy2, e1, _⟩ := hr.invSlN
    refine RRel.pure h (.int .i64 0) ?_
    rw [hrun]
    subst e1
    have hz : n.min 0 = 0 := Nat.min_zero n
    have hz2 : min n 0 = 0 := Nat.min_zero n
    rw [hz2] at s1
    simp [builtin, Builtin.copy_, run_und hu, hy2, s3, hz, s1, run_size hi, goInt]
  · cases ha
end
end Go.E
