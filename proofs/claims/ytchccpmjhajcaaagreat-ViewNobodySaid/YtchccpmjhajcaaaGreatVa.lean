/- An evaluator of the code of the model over a heap without draws, and how its states stand to the worlds of the model. -/
import Derived.RangeFuncIn
import Derived.RangeFuncLeaves
import Derived.Orders
import Derived.KernelRfl
import Derived.Laws.Cells
set_option linter.unusedVariables false
set_option linter.unusedSimpArgs false
set_option linter.unusedSectionVars false
namespace VE
open Go

/-! ## A trie keyed by numbers -/

inductive Tr (α : Type) where
  | nil
  | node (l : Tr α) (v : Option α) (r : Tr α)
  deriving Inhabited

namespace Tr
variable {α : Type}

def get : Tr α → Nat → Option α
  | nil, _ => none
  | node l v r, n => match n with
    | 0 => v
    | m + 1 => bif Nat.beq (m % 2) 0 then l.get (m / 2) else r.get (m / 2)

def setF : Nat → Tr α → Nat → Option α → Tr α
  | 0, t, _, _ => t
  | f + 1, t, n, v => match t with
    | nil => (match n with
      | 0 => node nil v nil
      | m + 1 => bif Nat.beq (m % 2) 0 then node (setF f nil (m / 2) v) none nil else node nil none (setF f nil (m / 2) v))
    | node l x r => (match n with
      | 0 => node l v r
      | m + 1 => bif Nat.beq (m % 2) 0 then node (setF f l (m / 2) v) x r else node l x (setF f r (m / 2) v))

def set (t : Tr α) (n : Nat) (v : Option α) : Tr α := setF (n + 1) t n v

theorem get_nil (n : Nat) : (nil : Tr α).get n = none := rfl

theorem get_setF : ∀ (f : Nat) (t : Tr α) (n k : Nat) (v : Option α), n < f → (setF f t n v).get k = if k = n then v else t.get k := by
  intro f
  induction f with
  | zero => intro t n k v h; omega
  | succ f ih =>
    intro t n k v h
    cases t with
    | nil =>
      cases n with
      | zero => cases k with
        | zero => simp [setF, get]
        | succ k => simp only [setF, get]; cases Nat.beq (k % 2) 0 <;> simp [get]
      | succ m =>
        have h2 : m / 2 < f := by omega
        simp only [setF]
        cases hm : Nat.beq (m % 2) 0 with
        | true =>
          have hm' : m % 2 = 0 := Nat.eq_of_beq_eq_true hm
          cases k with
          | zero => simp [get]
          | succ k =>
            simp only [cond_true, get]
            cases hk : Nat.beq (k % 2) 0 with
            | true =>
              have hk' : k % 2 = 0 := Nat.eq_of_beq_eq_true hk
              simp only [cond_true, ih _ _ _ _ h2, get_nil]
              by_cases e : k / 2 = m / 2
              · have : k = m := by omega
                simp [this]
              · have : k ≠ m := fun e' => e (by rw [e'])
                simp [e, this]
            | false =>
              have hk' : k % 2 ≠ 0 := Nat.ne_of_beq_eq_false hk
              have : k ≠ m := fun e' => hk' (by rw [e']; exact hm')
              simp [get_nil, this]
        | false =>
          have hm' : m % 2 ≠ 0 := Nat.ne_of_beq_eq_false hm
          cases k with
          | zero => simp [get]
          | succ k =>
            simp only [cond_false, get]
            cases hk : Nat.beq (k % 2) 0 with
            | true =>
              have hk' : k % 2 = 0 := Nat.eq_of_beq_eq_true hk
              have : k ≠ m := fun e' => hm' (by rw [← e']; exact hk')
              simp [get_nil, this]
            | false =>
              have hk' : k % 2 ≠ 0 := Nat.ne_of_beq_eq_false hk
              simp only [cond_false, ih _ _ _ _ h2, get_nil]
              by_cases e : k / 2 = m / 2
              · have : k = m := by omega
                simp [this]
              · have : k ≠ m := fun e' => e (by rw [e'])
                simp [e, this]
    | node l x r =>
      cases n with
      | zero => cases k with
        | zero => simp [setF, get]
        | succ k => simp only [setF, get]; cases Nat.beq (k % 2) 0 <;> simp [get]
      | succ m =>
        have h2 : m / 2 < f := by omega
        simp only [setF]
        cases hm : Nat.beq (m % 2) 0 with
        | true =>
          have hm' : m % 2 = 0 := Nat.eq_of_beq_eq_true hm
          cases k with
          | zero => simp [get]
          | succ k =>
            simp only [cond_true, get]
            cases hk : Nat.beq (k % 2) 0 with
            | true =>
              have hk' : k % 2 = 0 := Nat.eq_of_beq_eq_true hk
              simp only [cond_true, ih _ _ _ _ h2]
              by_cases e : k / 2 = m / 2
              · have : k = m := by omega
                simp [this]
              · have : k ≠ m := fun e' => e (by rw [e'])
                simp [e, this]
            | false =>
              have hk' : k % 2 ≠ 0 := Nat.ne_of_beq_eq_false hk
              have : k ≠ m := fun e' => hk' (by rw [e']; exact hm')
              simp [this]
        | false =>
          have hm' : m % 2 ≠ 0 := Nat.ne_of_beq_eq_false hm
          cases k with
          | zero => simp [get]
          | succ k =>
            simp only [cond_false, get]
            cases hk : Nat.beq (k % 2) 0 with
            | true =>
              have hk' : k % 2 = 0 := Nat.eq_of_beq_eq_true hk
              have : k ≠ m := fun e' => hm' (by rw [← e']; exact hk')
              simp [this]
            | false =>
              have hk' : k % 2 ≠ 0 := Nat.ne_of_beq_eq_false hk
              simp only [cond_false, ih _ _ _ _ h2]
              by_cases e : k / 2 = m / 2
              · have : k = m := by omega
                simp [this]
              · have : k ≠ m := fun e' => e (by rw [e'])
                simp [e, this]

theorem get_set (t : Tr α) (n k : Nat) (v : Option α) : (t.set n v).get k = if k = n then v else t.get k :=
  get_setF _ _ _ _ _ (Nat.lt_succ_self n)

theorem get_set_same (t : Tr α) (n : Nat) (v : Option α) : (t.set n v).get n = v := by rw [get_set, if_pos rfl]
theorem get_set_ne (t : Tr α) {n k : Nat} (v : Option α) (h : k ≠ n) : (t.set n v).get k = t.get k := by rw [get_set, if_neg h]

end Tr
end VE

namespace VE
open Go

/-! ## Values, heap -/

inductive V where
  | b (x : Bool)
  | i (k : IntKind) (n : Int)
  | f (k : FloatKind) (x : Nat)
  | c (k : FloatKind) (re im : Nat)
  | s (bs : List UInt8)
  | p (id off : Nat)
  | pn
  | sl (id off len lb sz : Nat) (ex : Bool)
  | sn
  | m (id : Nat)
  | mn
  | fn (f : Fn) (first captured : List V)
  | yl (id : Nat)
  | fnn
  | it (t : TypeId) (v : V)
  | itn
  | ag (l : List V)
  | tu (l : List V)
  deriving Inhabited

/-- Kinds of cells that are compared. -/
inductive CK where
  | b | i | s | f | c
  deriving DecidableEq, Inhabited

def V.cells : V → List V
  | .ag l => l
  | v => [v]

/-- How code is left. -/
inductive VX where
  | nrm
  | exit (id : Nat)
  | goto (l : Nat)
  | ret
  deriving DecidableEq, Inhabited

/-- Operations, with what they ask of the types looked up. -/
inductive VOp where
  | mv (x : Operand)
  | pick (c a b : Operand)
  | alloc (z : List V)
  | box (x : Operand)
  | build (z : List V) (parts : List (Nat × Nat × Operand))
  | buildC (parts : List (Nat × Operand))
  | bslice (z : List V) (sz len : Nat) (parts : List (Nat × Nat × Operand))
  | bsliceC (sz len : Nat) (parts : List (Nat × Operand))
  | load (ag : Option Nat) (a : Operand)
  | store (n : Nat) (a x : Operand)
  | nilCheck (x : Operand)
  | bin (op : BinOp) (x y : Operand)
  | eqB (neg : Bool) (x y : Operand)
  | eqAg (neg : Bool) (ks : List CK) (x y : Operand)
  | die
  | isNil (k : Nat) (neg : Bool) (x : Operand)
  | un (op : UnOp) (x : Operand)
  | toInt (k : IntKind) (x : Operand)
  | toFloat (k : FloatKind) (x : Operand)
  | toStr (x : Operand)
  | bytesStr (x : Operand)
  | runesStr (x : Operand)
  | mkIface (t : TypeId) (x : Operand)
  | mkFunc (fn : Fn) (first captured : List Operand)
  | mkMap
  | mkSlice (z : List V) (sz bytes : Nat) (len cap : Operand)
  | slStr (x : Operand) (lo hi : Option Operand)
  | slSl (sz : Nat) (x : Operand) (lo hi mx : Option Operand)
  | slArr (n sz : Nat) (x : Operand) (lo hi mx : Option Operand)
  | fieldAddr (off : Nat) (x : Operand)
  | field (off : Nat) (ag : Option Nat) (x : Operand)
  | idxSl (sz : Nat) (x i : Operand)
  | idxArr (len sz : Nat) (x i : Operand)
  | idxStr (x i : Operand)
  | idxAg (len sz : Nat) (ag : Option Nat) (x i : Operand)
  | lookup (ag : Bool) (ks : List CK) (z : V) (ok : Bool) (m k : Operand)
  | mapSet (ag : Bool) (ks : List CK) (m k v : Operand)
  | range (x : Operand)
  | next (x : Operand)
  | extract (x : Operand) (i : Nat)
  | call (f : Operand) (args : List Operand)
  | lenStr (x : Operand)
  | lenSl (x : Operand)
  | lenC (n : Nat)
  | cap (x : Operand)
  | append (mk : Bool) (z : List V) (sz bytes : Nat) (s x : Operand)
  | copy (sz : Nat) (d s : Operand)
  | clear (z : List V) (x : Operand)
  | mnmx (mx : Bool) (x : Operand) (l : List Operand)
  | complex (x y : Operand)
  | real (x : Operand)
  | imag (x : Operand)
  deriving Inhabited

structure VOper where
  dst : Option Nat
  op : VOp
  guard : Option (Nat × Bool)
  deriving Inhabited

/-- Of a region that draws its order: cls: 0: it does not look at memory; 1: it writes to nothing that was there; 2: it is ordered with all others that look at memory, but for loads. vs: those ahead of it with which it is not ordered: loads, if it writes; what writes, if it is a load. -/
structure VDOper where
  o : VOper
  cls : Nat
  vs : List Nat
  deriving Inhabited

inductive VC where
  | skip
  | ops (l : List VOper)
  | draw (l : List VDOper)
  | seq (a b : VC)
  | cond (c : Operand) (a b : VC)
  | block (id : Nat) (b : VC)
  | loop (keep : List Nat) (b : VC)
  | rangeFunc (f : Operand) (params : List Nat) (assign body : VC)
  | exit (id : Nat)
  | scope (b : VC)
  | label (l : Nat)
  | goto (l : Nat)
  | ret
  deriving Inhabited

def findLabelV : VC → Nat → Option VC
  | .seq a b, l =>
    match findLabelV a l with
    | some rest => some (.seq rest b)
    | none => findLabelV b l
  | .label l', l => if l' == l then some .skip else none
  | _, _ => none

abbrev Fr := Tr V

inductive VO where
  | cells (cs : List V)
  | ro (cs : List (Option V))
  | dead
  | map (es : List (V × V))
  | iter (s : List UInt8) (pos : Nat)
  | loop (st : LoopState) (pend : Option VX) (fr : Fr) (params : List Nat) (assign body : VC)
  deriving Inhabited

structure St where
  heap : Tr VO
  next : Nat
  deriving Inhabited

def St.alloc (s : St) (o : VO) : St := ⟨s.heap.set s.next (some o), s.next + 1⟩
def St.put (s : St) (id : Nat) (o : VO) : St := ⟨s.heap.set id (some o), s.next⟩

/-- Cells that are all told. -/
def allS : List (Option V) → Option (List V)
  | [] => some []
  | x :: r =>
    match x, allS r with
    | some v, some vs => some (v :: vs)
    | _, _ => none

/-- The cells of a live block, from one on, so many. -/
def St.rd (s : St) (id off n : Nat) : Option (List V) :=
  match s.heap.get id with
  | some (.cells cs) => if off + n ≤ cs.length then some ((cs.drop off).take n) else none
  | some (.ro cs) => if off + n ≤ cs.length then allS ((cs.drop off).take n) else none
  | _ => none

/-- Is it one cell's value? -/
def V.ok1 : V → Bool
  | .ag _ | .tu _ => false
  | _ => true

def splice (cs : List V) (off : Nat) (vs : List V) : List V := cs.take off ++ vs ++ cs.drop (off + vs.length)

def St.wr (lo : Nat) (s : St) (id off : Nat) (vs : List V) : Option St :=
  if id < lo then none else
  match s.heap.get id with
  | some (.cells cs) => if off + vs.length ≤ cs.length ∧ vs.all V.ok1 = true then some (s.put id (.cells (splice cs off vs))) else none
  | _ => none

def mkAg (ag : Option Nat) (cs : List V) : Option V :=
  match ag with
  | some _ => some (.ag cs)
  | none => cs.head?

def agN (ag : Option Nat) : Nat := ag.getD 1

/-! ## Operations without memory -/

def ibits (op : BinOp) (k : IntKind) (x y : Int) : Option V :=
  let a := BitVec.ofInt k.bits x
  let b := BitVec.ofInt k.bits y
  match op with
  | .and => some (.i k (k.wrap (a &&& b).toNat))
  | .or => some (.i k (k.wrap (a ||| b).toNat))
  | .xor => some (.i k (k.wrap (a ^^^ b).toNat))
  | .andNot => some (.i k (k.wrap (a &&& ~~~b).toNat))
  | _ => none

def ibin (op : BinOp) (k : IntKind) (x y : Int) : Option V :=
  match op with
  | .add => some (.i k (k.wrap (x + y)))
  | .sub => some (.i k (k.wrap (x - y)))
  | .mul => some (.i k (k.wrap (x * y)))
  | .quo => if y = 0 then none else some (.i k (k.wrap (x.tdiv y)))
  | .rem => if y = 0 then none else some (.i k (x.tmod y))
  | .eql => some (.b (x == y))
  | .neq => some (.b (x != y))
  | .lss => some (.b (x < y))
  | .leq => some (.b (x ≤ y))
  | .gtr => some (.b (x > y))
  | .geq => some (.b (x ≥ y))
  | .and | .or | .xor | .andNot => ibits op k x y
  | _ => none

def shiftV (op : BinOp) (k : IntKind) (x : Int) (y : Int) : Option V :=
  if y < 0 then none else
  let n := min y.toNat k.bits
  match op with
  | .shl => some (.i k (k.wrap (x * 2 ^ n)))
  | .shr => some (.i k (x.fdiv (2 ^ n)))
  | _ => none

/-- What a computation without memory comes to. -/
def pureS {α : Type} : Sem α → Option α
  | .pure a => some a
  | _ => none

def ofVal : Value → Option V
  | .bool b => some (.b b)
  | .int k n => some (.i k n)
  | .float k n => some (.f k n)
  | .complex k a b => some (.c k a b)
  | _ => none

def sbin (op : BinOp) (x y : List UInt8) : Option V :=
  match op with
  | .add => if x.length + y.length ≤ 1099511627776 then some (.s (x ++ y)) else none
  | .eql => some (.b (x == y))
  | .neq => some (.b (!(x == y)))
  | .lss => some (.b (Op.bytesLess x y))
  | .leq => some (.b (Op.bytesLess x y || x == y))
  | .gtr => some (.b (!(Op.bytesLess x y || x == y)))
  | .geq => some (.b (!Op.bytesLess x y))
  | _ => none

/-- Equality of cells: of plain values alone, of the kind. -/
def ceq : CK → V → V → Option Bool
  | .b, .b x, .b y => some (x == y)
  | .i, .i k x, .i k' y => if k = k' then some (x == y) else none
  | .s, .s x, .s y => some (x == y)
  | .f, .f k x, .f k' y => if k = k' then some (Op.floatEq k x y) else none
  | .c, .c k x y, .c k' z w => if k = k' then some (Op.floatEq k x z && Op.floatEq k y w) else none
  | _, _, _ => none

def ceqs : List CK → List V → List V → Option Bool
  | [], [], [] => some true
  | k :: ks, x :: xs, y :: ys =>
    match ceq k x y, ceqs ks xs ys with
    | some a, some r => some (a && r)
    | _, _ => none
  | _, _, _ => none

def binV (op : BinOp) (x y : V) : Option V :=
  match x, y with
  | .i k a, .i k' b =>
    match op with
    | .shl | .shr => shiftV op k a b
    | _ => if k = k' then ibin op k a b else none
  | .s a, .s b => sbin op a b
  | .f k a, .f k' b =>
    if k = k' then
      match op with
      | .add | .sub | .mul | .quo => (pureS (Op.floatArith op k a b)).bind ofVal
      | _ => (pureS (Op.floatCmp op k a b)).bind ofVal
    else none
  | .c k a b, .c k' c d => if k = k' then (pureS (Op.complexOp op k a b c d)).bind ofVal else none
  | _, _ => none

/-- Nil of a kind of type: 0: pointers, 1: slices, 2: maps, 3: functions, 4: interfaces. -/
def isNilV : Nat → V → Option Bool
  | 0, .pn => some true
  | 0, .p .. => some false
  | 1, .sn => some true
  | 1, .sl .. => some false
  | 2, .mn => some true
  | 2, .m .. => some false
  | 3, .fnn => some true
  | 3, .fn .. => some false
  | 3, .yl .. => some false
  | 4, .itn => some true
  | 4, .it .. => some false
  | _, _ => none

def unV (op : UnOp) (x : V) : Option V :=
  match op, x with
  | .neg, .i k n => some (.i k (k.wrap (0 - n)))
  | .not, .b b => some (.b !b)
  | .neg, .f k b => some (.f k (Op.negFloat k b))
  | .neg, .c k re im => some (.c k (Op.negFloat k re) (Op.negFloat k im))
  | .xor, .i k n => ibits .xor k (if k.signed then -1 else k.max) n
  | _, _ => none

def toIntV (k : IntKind) : V → Option V
  | .i _ n => some (.i k (k.wrap n))
  | .f s b => (pureS (Conv.floatToInt s b k)).bind ofVal
  | _ => none

def toFloatV (k : FloatKind) : V → Option V
  | .i _ n => some (.f k (k.nearest n))
  | .f s b => if s = k then some (.f k b) else none
  | _ => none

def bytesOf : List V → Option (List UInt8)
  | [] => some []
  | .i .u8 n :: r => (bytesOf r).map (UInt8.ofNat n.toNat :: ·)
  | _ => none

def runesOf : List V → Option (List UInt8)
  | [] => some []
  | .i .i32 n :: r => (runesOf r).map ((Utf8.encode n).data.toList ++ ·)
  | _ => none

def mnmx2 (mx : Bool) : V → V → Option V
  | .i k x, .i _ y => some (.i k (if (if mx then decide (y > x) else decide (y < x)) then y else x))
  | _, _ => none

def mnmxV (mx : Bool) (x : V) : List V → Option V
  | [] => some x
  | y :: r => (mnmx2 mx x y).bind fun z => mnmxV mx z r

/-- Parts laid into cells. -/
def fillV (cells : List V) : List (Nat × Nat × V) → Option (List V)
  | [] => some cells
  | (off, size, v) :: rest =>
    if v.cells.length = size ∧ off + v.cells.length ≤ cells.length then fillV (splice cells off v.cells) rest else none

def concatV : List (Nat × V) → Option (List V)
  | [] => some []
  | (size, v) :: rest => if v.cells.length = size then (concatV rest).map (v.cells ++ ·) else none

def reps (n : Nat) (z : List V) : List V := (List.replicate n z).flatten

def partV (ag : Option Nat) (cs : List V) (off : Nat) : Option V :=
  if off + agN ag ≤ cs.length then mkAg ag ((cs.drop off).take (agN ag)) else none

/-- A slice's bounds, or none. -/
def bnd (y : Nat) : Option V → Nat → Option Nat
  | none, d => some d
  | some (.i _ i), _ => if 0 ≤ i ∧ i ≤ y then some i.toNat else none
  | _, _ => none

/-! ## Operations -/

def evO (fr : Fr) : Operand → Option V
  | .tmp t => fr.get t
  | .const v =>
    match v with
    | .bool b => some (.b b)
    | .int k n => some (.i k n)
    | .float k n => some (.f k n)
    | .complex k a b => some (.c k a b)
    | .string s => some (.s s.data.toList)
    | .pointer none => some .pn
    | .slice none 0 0 => some .sn
    | .map none => some .mn
    | .nilFunc => some .fnn
    | .nilIface => some .itn
    | _ => none
  | .global _ => none
  | .func f => some (.fn (.func f) [] [])

def evL (fr : Fr) : List Operand → Option (List V)
  | [] => some []
  | x :: r =>
    match evO fr x, evL fr r with
    | some v, some vs => some (v :: vs)
    | _, _ => none

def evP (fr : Fr) : List (Nat × Nat × Operand) → Option (List (Nat × Nat × V))
  | [] => some []
  | (a, b, x) :: r =>
    match evO fr x, evP fr r with
    | some v, some vs => some ((a, b, v) :: vs)
    | _, _ => none

def evC (fr : Fr) : List (Nat × Operand) → Option (List (Nat × V))
  | [] => some []
  | (b, x) :: r =>
    match evO fr x, evC fr r with
    | some v, some vs => some ((b, v) :: vs)
    | _, _ => none

def evOp (fr : Fr) : Option Operand → Option (Option V)
  | none => some none
  | some x => (evO fr x).map some

/-- What code comes to that calls, loops, jumps. -/
structure Orc where
  call : Nat → FuncId → List V → St → Option (V × St)
  loop : Nat → List Nat → VC → Fr → St → Option (VX × Fr × St)
  jump : Nat → VC → VC → Fr → St → Option (VX × Fr × St)
  round : Nat → Nat → List V → St → Option (V × St)

def callV (o : Orc) (lo : Nat) (f : V) (args : List V) (s : St) : Option (V × St) :=
  match f with
  | .fn (.func k) first captured => o.call lo k (first ++ args ++ captured) s
  | .yl id => o.round lo id args s
  | _ => none

def lenV : V → Option Nat
  | .s bs => some bs.length
  | .sn => some 0
  | .sl _ _ len _ _ _ => some len
  | _ => none

/-- The first cells of what is appended or copied. -/
def srcV (sz n : Nat) (s : St) : V → Option (List V)
  | .s bs => if sz = 1 then some ((bs.take n).map fun b => .i .u8 b.toNat) else none
  | .sn => some []
  | .sl id off _ _ sz' _ => if sz' = sz then s.rd id off (n * sz) else none
  | _ => none

/-- What is appended: how many, and their cells. -/
def newV (mk : Bool) (z : List V) (sz : Nat) (x : V) (s : St) : Option (Nat × List V) :=
  match mk with
  | true => (match x with
    | .i _ l => if 0 ≤ l ∧ l ≤ 1048576 ∧ z.length = sz then some (l.toNat, reps l.toNat z) else none
    | _ => none)
  | false => match lenV x with
    | some n => (srcV sz n s x).map fun cs => (n, cs)
    | none => none

/-- Is there room for so many, of so many bytes each? (ex: how great the array is, is known: it has lb.) -/
def roomA (ex : Bool) (lb need bytes : Nat) : Bool :=
  Nat.ble bytes 1024 && (Nat.ble need 1073741824 || (ex && Nat.blt (2 * lb) need && Nat.ble (need * bytes) 140737488355328 && Nat.ble need 140737488355328))

theorem roomA_ok {ex : Bool} {lb need bytes : Nat} (h : roomA ex lb need bytes = true) : bytes ≤ 1024 ∧ (need ≤ 1073741824 ∨ (ex = true ∧ 2 * lb < need ∧ need * bytes ≤ 140737488355328 ∧ need ≤ 140737488355328)) := by
  simp only [roomA, Bool.and_eq_true, Bool.or_eq_true, Nat.ble_eq, Nat.blt_eq] at h
  obtain ⟨h1, h2⟩ := h
  refine ⟨h1, h2.imp (fun h => h) fun h => ⟨h.1.1.1, h.1.1.2, h.1.2, h.2⟩⟩

def appendV (lo : Nat) (mk : Bool) (z : List V) (sz bytes : Nat) (sv x : V) (s : St) : Option (V × St) :=
  match newV mk z sz x s with
  | none => none
  | some (0, _) => (match sv with
    | .sn => some (sv, s)
    | .sl _ _ _ _ sz' _ => if sz' = sz then some (sv, s) else none
    | _ => none)
  | some (n + 1, new) =>
    match sv with
    | .sn => if roomA true 0 (n + 1) bytes = true then
        some (.sl s.next 0 (n + 1) (n + 1) sz false, s.alloc (.cells new)) else none
    | .sl id off len lb sz' ex =>
      if sz' = sz ∧ roomA ex lb (len + n + 1) bytes = true then
        if len + n + 1 ≤ lb then
          (s.wr lo id (off + len * sz) new).map fun s' => (.sl id off (len + n + 1) lb sz ex, s')
        else
          match s.rd id off (len * sz) with
          | none => none
          | some old =>
            if ex then some (.sl s.next 0 (len + n + 1) (len + n + 1) sz false, s.alloc (.cells (old ++ new)))
            else if id < lo then none
            else match s.heap.get id with
              | some (.cells _) => if new.all V.ok1 = true then some (.sl s.next 0 (len + n + 1) (len + n + 1) sz false, (s.put id .dead).alloc (.cells (old ++ new)))
                else none
              | _ => none
      else none
    | _ => none

def sliceV (sz id off len lb : Nat) (ex : Bool) (lo hi mx : Option V) : Option V :=
  match mx with
  | none =>
    match bnd lb hi len with
    | none => none
    | some h => match bnd h lo 0 with
      | none => none
      | some l => some (.sl id (off + l * sz) (h - l) (lb - l) sz ex)
  | some _ =>
    match bnd lb mx 0 with
    | none => none
    | some m => match hi with
      | none => none
      | some _ => match bnd m hi 0 with
        | none => none
        | some h => match bnd h lo 0 with
          | none => none
          | some l => some (.sl id (off + l * sz) (h - l) (m - l) sz true)

def isAgV : V → Bool
  | .ag _ => true
  | _ => false

/-- Equality of a map's keys. -/
def keq (ag : Bool) (ks : List CK) (x y : V) : Option Bool :=
  if (isAgV x == ag && isAgV y == ag) = true then ceqs ks x.cells y.cells else none

def findE (ag : Bool) (ks : List CK) (k : V) : List (V × V) → Option (Option V)
  | [] => some none
  | (a, v) :: r =>
    match keq ag ks k a with
    | some true => some (some v)
    | some false => findE ag ks k r
    | none => none

def putE (ag : Bool) (ks : List CK) (k v : V) : List (V × V) → Option (List (V × V))
  | [] => some [(k, v)]
  | (a, u) :: r =>
    match keq ag ks k a with
    | some true => some ((k, v) :: r)
    | some false => (putE ag ks k v r).map ((a, u) :: ·)
    | none => none

/-- What a lookup comes to. -/
def lkV (ok : Bool) (z : V) : Option V → V
  | some v => if ok then .tu [v, .b true] else v
  | none => if ok then .tu [z, .b false] else z

def opV (o : Orc) (lo : Nat) (fr : Fr) (op : VOp) (s : St) : Option (V × St) :=
  match op with
  | .mv x => (evO fr x).map (·, s)
  | .pick c a b =>
    match evO fr c with
    | some (.b true) => (evO fr a).map (·, s)
    | some (.b false) => (evO fr b).map (·, s)
    | _ => none
  | .alloc z => some (.p s.next 0, s.alloc (.cells z))
  | .box x =>
    match evO fr x with
    | some v => some (.p s.next 0, s.alloc (.cells v.cells))
    | none => none
  | .build z parts =>
    match evP fr parts with
    | some vs => (fillV z vs).map fun cs => (.ag cs, s)
    | none => none
  | .buildC parts =>
    match evC fr parts with
    | some vs => (concatV vs).map fun cs => (.ag cs, s)
    | none => none
  | .bslice z sz len parts =>
    match evP fr parts with
    | some vs => match fillV (reps len z) vs with
      | some cs => some (.sl s.next 0 len len sz true, s.alloc (.cells cs))
      | none => none
    | none => none
  | .bsliceC sz len parts =>
    match evC fr parts with
    | some vs => match concatV vs with
      | some cs => some (.sl s.next 0 len len sz true, s.alloc (.cells cs))
      | none => none
    | none => none
  | .load ag a =>
    match evO fr a with
    | some (.p id off) => match s.rd id off (agN ag) with
      | some cs => (mkAg ag cs).map (·, s)
      | none => none
    | _ => none
  | .store n a x =>
    match evO fr a, evO fr x with
    | some (.p id off), some v => if v.cells.length = n then (s.wr lo id off v.cells).map (.tu [], ·) else none
    | _, _ => none
  | .nilCheck x =>
    match evO fr x with
    | some (.p id off) => some (.p id off, s)
    | some (.it t v) => some (.it t v, s)
    | some (.fn (.func k) a c) => some (.fn (.func k) a c, s)
    | some (.yl id) => some (.yl id, s)
    | _ => none
  | .bin op x y =>
    match evO fr x, evO fr y with
    | some a, some b => (binV op a b).map (·, s)
    | _, _ => none
  | .eqB neg x y =>
    match evO fr x, evO fr y with
    | some (.b a), some (.b b) => some (.b ((a == b) != neg), s)
    | _, _ => none
  | .eqAg neg ks x y =>
    match evO fr x, evO fr y with
    | some (.ag xs), some (.ag ys) => (ceqs ks xs ys).map fun r => (.b (r != neg), s)
    | _, _ => none
  | .die => none
  | .isNil k neg x =>
    match evO fr x with
    | some a => (isNilV k a).map fun r => (.b (r != neg), s)
    | none => none
  | .un op x =>
    match evO fr x with
    | some a => (unV op a).map (·, s)
    | none => none
  | .toInt k x => ((evO fr x).bind (toIntV k)).map (·, s)
  | .toFloat k x => ((evO fr x).bind (toFloatV k)).map (·, s)
  | .toStr x =>
    match evO fr x with
    | some (.s bs) => some (.s bs, s)
    | some (.i _ n) => some (.s (Utf8.encode n).data.toList, s)
    | _ => none
  | .bytesStr x =>
    match evO fr x with
    | some .sn => some (.s [], s)
    | some (.sl id off len _ sz _) => if sz = 1 then (match s.rd id off len with
      | some cs => (bytesOf cs).map fun bs => (.s bs, s)
      | none => none) else none
    | _ => none
  | .runesStr x =>
    match evO fr x with
    | some .sn => some (.s [], s)
    | some (.sl id off len _ sz _) => if sz = 1 then (match s.rd id off len with
      | some cs => (runesOf cs).map fun bs => (.s bs, s)
      | none => none) else none
    | _ => none
  | .mkIface t x => (evO fr x).map fun v => (.it t v, s)
  | .mkFunc f first captured =>
    match f, evL fr first, evL fr captured with
    | .func k, some a, some c => some (.fn (.func k) a c, s)
    | _, _, _ => none
  | .mkMap => some (.m s.next, s.alloc (.map []))
  | .mkSlice z sz bytes len cap =>
    match evO fr len, evO fr cap with
    | some (.i _ l), some (.i _ c) =>
      if 0 ≤ l ∧ l ≤ c ∧ bytes * c ≤ 1099511627776 ∧ c ≤ 1099511627776 then
        some (.sl s.next 0 l.toNat c.toNat sz true, s.alloc (.cells (reps c.toNat z)))
      else none
    | _, _ => none
  | .slStr x lo' hi =>
    match evO fr x, evOp fr lo', evOp fr hi with
    | some (.s bs), some l, some h =>
      match bnd bs.length h bs.length with
      | some h => match bnd h l 0 with
        | some l => some (.s ((bs.drop l).take (h - l)), s)
        | none => none
      | none => none
    | _, _, _ => none
  | .slSl sz x lo' hi mx =>
    match evO fr x, evOp fr lo', evOp fr hi, evOp fr mx with
    | some (.sl id off len lb sz' ex), some l, some h, some m => if sz' = sz then (sliceV sz id off len lb ex l h m).map (·, s) else none
    | some .sn, some l, some h, some m =>
      -- of a nil slice: the same, from nothing to nothing
      match bnd 0 h 0, bnd 0 l 0, bnd 0 m 0 with
      | some _, some _, some _ => if m.isSome && h.isNone then none else some (.sn, s)
      | _, _, _ => none
    | _, _, _, _ => none
  | .slArr n sz x lo' hi mx =>
    match evO fr x, evOp fr lo', evOp fr hi, evOp fr mx with
    | some (.p id off), some l, some h, some none =>
      match s.rd id off (n * sz) with
      | some _ => (sliceV sz id off n n true l h none).map (·, s)
      | none => none
    | _, _, _, _ => none
  | .fieldAddr off x =>
    match evO fr x with
    | some (.p id a) => some (.p id (a + off), s)
    | _ => none
  | .field off ag x =>
    match evO fr x with
    | some (.ag cs) => (partV ag cs off).map (·, s)
    | _ => none
  | .idxSl sz x i =>
    match evO fr x, evO fr i with
    | some (.sl id off len _ sz' _), some (.i _ n) => if sz' = sz ∧ 0 ≤ n ∧ n < len then some (.p id (off + n.toNat * sz), s) else none
    | _, _ => none
  | .idxArr len sz x i =>
    match evO fr x, evO fr i with
    | some (.p id off), some (.i _ n) => if 0 ≤ n ∧ n < len then some (.p id (off + n.toNat * sz), s) else none
    | _, _ => none
  | .idxStr x i =>
    match evO fr x, evO fr i with
    | some (.s bs), some (.i _ n) => if 0 ≤ n then (match bs[n.toNat]? with
      | some b => some (.i .u8 b.toNat, s)
      | none => none) else none
    | _, _ => none
  | .idxAg len sz ag x i =>
    match evO fr x, evO fr i with
    | some (.ag cs), some (.i _ n) => if 0 ≤ n ∧ n < len then (partV ag cs (n.toNat * sz)).map (·, s) else none
    | _, _ => none
  | .lookup ag ks z ok m k =>
    match evO fr m, evO fr k with
    | some mv, some kv =>
      let es? : Option (List (V × V)) := match mv with
        | .mn => some []
        | .m id => match s.heap.get id with
          | some (.map es) => some es
          | _ => none
        | _ => none
      match es? with
      | some es => if (keq ag ks kv kv).isSome then (findE ag ks kv es).map fun r => (lkV ok z r, s) else none
      | none => none
    | _, _ => none
  | .mapSet ag ks m k v =>
    match evO fr m, evO fr k, evO fr v with
    | some (.m id), some kv, some vv =>
      if id < lo then none else
      match s.heap.get id with
      | some (.map es) => if (keq ag ks kv kv).isSome then (putE ag ks kv vv es).map fun es' => (.tu [], s.put id (.map es')) else none
      | _ => none
    | _, _, _ => none
  | .range x =>
    match evO fr x with
    | some (.s bs) => some (.p s.next 0, s.alloc (.iter bs 0))
    | _ => none
  | .next x =>
    match evO fr x with
    | some (.p id 0) =>
      if id < lo then none else
      match s.heap.get id with
      | some (.iter bs pos) =>
        if pos < bs.length then
          let d := Utf8.decode ⟨⟨bs⟩⟩ pos
          some (.tu [.b true, .i .i64 pos, .i .i32 d.1], s.put id (.iter bs (pos + d.2)))
        else some (.tu [.b false], s)
      | _ => none
    | _ => none
  | .extract x i =>
    match evO fr x with
    | some (.tu l) => (l[i]?).map (·, s)
    | _ => none
  | .call f args =>
    match evO fr f, evL fr args with
    | some fv, some vs => callV o lo fv vs s
    | _, _ => none
  | .lenStr x =>
    match evO fr x with
    | some (.s bs) => some (.i .i64 bs.length, s)
    | _ => none
  | .lenSl x =>
    match evO fr x with
    | some .sn => some (.i .i64 0, s)
    | some (.sl _ _ len _ _ _) => some (.i .i64 len, s)
    | _ => none
  | .lenC n => some (.i .i64 n, s)
  | .cap x =>
    match evO fr x with
    | some .sn => some (.i .i64 0, s)
    | some (.sl _ _ _ lb _ true) => some (.i .i64 lb, s)
    | _ => none
  | .append mk z sz bytes a x =>
    match evO fr a, evO fr x with
    | some av, some xv => appendV lo mk z sz bytes av xv s
    | _, _ => none
  | .copy sz d x =>
    match evO fr d, evO fr x with
    | some dv, some xv =>
      match lenV dv, lenV xv with
      | some dl, some xl =>
        let n := Nat.min xl dl
        match srcV sz n s xv with
        | some cs => (match dv with
          | .sn => some (.i .i64 n, s)
          | .sl id off _ _ sz' _ => if sz' = sz then (s.wr lo id off cs).map (.i .i64 n, ·) else none
          | _ => none)
        | none => none
      | _, _ => none
    | _, _ => none
  | .clear z x =>
    match evO fr x with
    | some .sn => some (.tu [], s)
    | some (.sl id off len _ sz _) =>
      if len = 0 then some (.tu [], s)
      else if z.length = sz then (s.wr lo id off (reps len z)).map (.tu [], ·) else none
    | _ => none
  | .mnmx mx x l =>
    match evO fr x, evL fr l with
    | some v, some vs => (mnmxV mx v vs).map (·, s)
    | _, _ => none
  | .complex x y =>
    match evO fr x, evO fr y with
    | some (.f k a), some (.f k' b) => if k = k' then some (.c k a b, s) else none
    | _, _ => none
  | .real x =>
    match evO fr x with
    | some (.c k a _) => some (.f k a, s)
    | _ => none
  | .imag x =>
    match evO fr x with
    | some (.c k _ b) => some (.f k b, s)
    | _ => none

def putD (fr : Fr) (dst : Option Nat) (v : Option V) : Fr :=
  match dst with
  | some d => fr.set d v
  | none => fr

def wantedV (fr : Fr) (g : Option (Nat × Bool)) : Option Bool :=
  match g with
  | none => some true
  | some (t, want) =>
    match fr.get t with
    | some (.b x) => some (x == want)
    | some (.tu []) => some false
    | _ => none

def opsV (o : Orc) (lo : Nat) : List VOper → Fr → St → Option (Fr × St)
  | [], fr, s => some (fr, s)
  | x :: r, fr, s =>
    match wantedV fr x.guard with
    | some true => match opV o lo fr x.op s with
      | some (v, s') => opsV o lo r (putD fr x.dst (some v)) s'
      | none => none
    | some false => opsV o lo r (putD fr x.dst (some (.tu []))) s
    | none => none

def whole : Nat := 18446744073709551616

/-- Where a load, a store, an append, a new block looks at, or writes to: the block, from where on, how many cells. -/
def footV (fr : Fr) (next : Nat) : VOp → Option (Nat × Nat × Nat)
  | .alloc _ | .box _ | .bslice .. | .bsliceC .. | .mkMap | .mkSlice .. | .range _ => some (next, 0, whole)
  | .load ag a =>
    match evO fr a with
    | some (.p id off) => some (id, off, agN ag)
    | _ => none
  | .slArr n sz x _ _ _ =>
    match evO fr x with
    | some (.p id off) => some (id, off, n * sz)
    | _ => none
  | .store n a _ =>
    match evO fr a with
    | some (.p id off) => some (id, off, n)
    | _ => none
  | .append _ _ _ _ a _ =>
    match evO fr a with
    | some (.sl id _ _ _ _ _) => some (id, 0, whole)
    | _ => none
  | _ => none

def apartS (a b : Nat × Nat × Nat) : Bool := (!Nat.beq a.1 b.1) || ((Nat.ble (a.2.1 + a.2.2) b.2.1 || Nat.ble (b.2.1 + b.2.2) a.2.1) && Nat.blt a.2.2 whole && Nat.blt b.2.2 whole)

def ftOk (vs : List Nat) (ft : List (Nat × Nat × Nat × Nat)) (a : Nat × Nat × Nat) : Bool :=
  ft.all fun e => !vs.contains e.1 || apartS e.2 a

def drawV (o : Orc) (lo : Nat) : Nat → List VDOper → List (Nat × Nat × Nat × Nat) → Fr → St → Option (Fr × St)
  | _, [], _, fr, s => some (fr, s)
  | i, x :: r, ft, fr, s =>
    match wantedV fr x.o.guard with
    | some true =>
      match footV fr s.next x.o.op with
      | some a =>
        if ftOk x.vs ft a then
          match opV o (if x.cls = 1 then s.next else lo) fr x.o.op s with
          | some (v, s') => drawV o lo (i + 1) r ((i, a) :: ft) (putD fr x.o.dst (some v)) s'
          | none => none
        else none
      | none =>
        match opV o (if x.cls = 1 then s.next else lo) fr x.o.op s with
        | some (v, s') => drawV o lo (i + 1) r ft (putD fr x.o.dst (some v)) s'
        | none => none
    | some false => drawV o lo (i + 1) r ft (putD fr x.o.dst (some (.tu []))) s
    | none => none

def keepV (fr : Fr) : List Nat → Fr
  | [] => .nil
  | t :: r => (keepV fr r).set t (fr.get t)

def X (o : Orc) (lo : Nat) : VC → Fr → St → Option (VX × Fr × St)
  | .skip, fr, s => some (.nrm, fr, s)
  | .ops l, fr, s =>
    match opsV o lo l fr s with
    | some (fr', s') => some (.nrm, fr', s')
    | none => none
  | .draw l, fr, s =>
    match drawV o lo 0 l [] fr s with
    | some (fr', s') => some (.nrm, fr', s')
    | none => none
  | .seq a b, fr, s =>
    match X o lo a fr s with
    | some (.nrm, fr', s') => X o lo b fr' s'
    | r => r
  | .cond c a b, fr, s =>
    match evO fr c with
    | some (.b true) => X o lo a fr s
    | some (.b false) => X o lo b fr s
    | _ => none
  | .block id b, fr, s =>
    match X o lo b fr s with
    | some (.exit id', fr', s') => if id' = id then some (.nrm, fr', s') else some (.exit id', fr', s')
    | r => r
  | .loop keep b, fr, s => o.loop lo keep b (keepV fr keep) s
  | .rangeFunc f params assign body, fr, s =>
    match evO fr f with
    | some (.fn (.func k) first captured) =>
      match o.call lo k (first ++ [.yl s.next] ++ captured) (s.alloc (.loop .ready none fr params assign body)) with
      | some (_, s') =>
        match s'.heap.get s.next with
        | some (.loop st pend fr' ps a b) =>
          if st = .busy then none
          else
            match pend with
            | none => some (.nrm, fr, s'.put s.next (.loop .exhausted pend fr' ps a b))
            | some x => some (x, fr, s'.put s.next (.loop .exhausted pend fr' ps a b))
        | _ => none
      | none => none
    | _ => none
  | .exit id, fr, s => some (.exit id, fr, s)
  | .scope b, fr, s => o.jump lo b b fr s
  | .label _, fr, s => some (.nrm, fr, s)
  | .goto l, fr, s => some (.goto l, fr, s)
  | .ret, fr, s => some (.ret, fr, s)

inductive VRes where
  | tmp (t : Nat)
  | cell (t : Nat) (ag : Option Nat)
  deriving Inhabited

def resV (fr : Fr) (s : St) : VRes → Option V
  | .tmp t => fr.get t
  | .cell t ag =>
    match fr.get t with
    | some (.p id off) => (s.rd id off (agN ag)).bind (mkAg ag)
    | _ => none

def resL (fr : Fr) (s : St) : List VRes → Option (List V)
  | [] => some []
  | x :: r =>
    match resV fr s x, resL fr s r with
    | some v, some vs => some (v :: vs)
    | _, _ => none

structure VFn where
  params : Nat
  results : List VRes
  body : VC
  deriving Inhabited

def argsV (k : Nat) : List V → Fr
  | [] => .nil
  | v :: r => (argsV (k + 1) r).set k (some v)

def setL (fr : Fr) : List (Nat × V) → Fr
  | [] => fr
  | (t, v) :: r => setL (fr.set t (some v)) r

def one (l : List V) : V :=
  match l with
  | [v] => v
  | l => .tu l

/-- What the program's functions come to: n: so deep. -/
def orc (T : Tr VFn) : Nat → Orc
  | 0 => ⟨fun _ _ _ _ => none, fun _ _ _ _ _ => none, fun _ _ _ _ _ => none, fun _ _ _ _ => none⟩
  | n + 1 =>
    { call := fun lo k args s =>
        match T.get k with
        | some f =>
          if args.length = f.params then
            match X (orc T n) lo f.body (argsV 0 args) s with
            | some (.nrm, fr, s') => (resL fr s' f.results).map fun vs => (one vs, s')
            | some (.ret, fr, s') => (resL fr s' f.results).map fun vs => (one vs, s')
            | _ => none
          else none
        | none => none
      loop := fun lo keep b fr s =>
        match X (orc T n) lo b fr s with
        | some (.nrm, fr', s') => (orc T n).loop lo keep b (keepV fr' keep) s'
        | r => r
      jump := fun lo b cur fr s =>
        match X (orc T n) lo cur fr s with
        | some (.goto l, fr', s') =>
          match findLabelV b l with
          | some rest => (orc T n).jump lo b rest fr' s'
          | none => some (.goto l, fr', s')
        | r => r
      round := fun lo id args s =>
        if id < lo then none else
        match s.heap.get id with
        | some (.loop _ _ fr ps assign body) =>
          if args.length = ps.length then
            match X (orc T n) lo assign (setL fr (ps.zip args)) s with
            | some (.nrm, fr1, s1) =>
              match s1.heap.get id with
              | some (.loop .ready pend fr0 ps0 a0 b0) =>
                match X (orc T n) lo body fr1 (s1.put id (.loop .busy pend fr0 ps0 a0 b0)) with
                | some (x, _, s2) =>
                  match s2.heap.get id with
                  | some (.loop _ _ fr3 ps3 a3 b3) =>
                    (match x with
                    | .nrm => some (.b true, s2.put id (.loop .ready none fr3 ps3 a3 b3))
                    | x => some (.b false, s2.put id (.loop .done (some x) fr3 ps3 a3 b3)))
                  | _ => none
                | none => none
              | _ => none
            | _ => none
          else none
        | _ => none }

end VE

namespace VE
open Go

/-! ## Out of code: code with its types looked up -/

def cv1 : Value → Option V
  | .bool b => some (.b b)
  | .int k n => some (.i k n)
  | .float k n => some (.f k n)
  | .complex k a b => some (.c k a b)
  | .string s => some (.s s.data.toList)
  | .pointer none => some .pn
  | .slice none 0 0 => some .sn
  | .map none => some .mn
  | .nilFunc => some .fnn
  | .nilIface => some .itn
  | _ => none

def cvL : List Value → Option (List V)
  | [] => some []
  | v :: r =>
    match cv1 v, cvL r with
    | some x, some xs => some (x :: xs)
    | _, _ => none

def cv : Value → Option V
  | .agg cs => (cvL cs.toList).map .ag
  | v => cv1 v

/-- The zero cells of a type, and how many. -/
def zeroV (P : Program) (t : TypeId) : Option V := ((P.info? t).bind (·.zero)).bind cv

def sizeV (P : Program) (t : TypeId) : Option Nat := (P.info? t).map (·.size)
def bytesV (P : Program) (t : TypeId) : Option Nat := (P.info? t).map (·.bytes)

def isAggD : TypeDesc → Bool
  | .struct _ | .array _ _ => true
  | _ => false

def aggV (P : Program) (t : TypeId) : Option (Option Nat) :=
  match P.underlying t, sizeV P t with
  | some d, some n => some (if isAggD d = true then some n else none)
  | _, _ => none

def nilConst : Nat → Operand → Bool
  | 0, .const (.pointer none) => true
  | 1, .const (.slice none 0 0) => true
  | 2, .const (.map none) => true
  | 3, .const .nilFunc => true
  | 4, .const .nilIface => true
  | _, _ => false

def isPlain : TypeDesc → Bool
  | .int _ | .float _ | .complex _ | .string => true
  | _ => false

def nilK : TypeDesc → Option Nat
  | .pointer _ => some 0
  | .slice _ => some 1
  | .map _ _ => some 2
  | .func _ _ _ => some 3
  | .interface _ => some 4
  | _ => none

def placesS (P : Program) (fs : Array Field) : List (Nat × Operand) → Option (List (Nat × Nat × Operand))
  | [] => some []
  | (i, x) :: r =>
    match fs[i]? with
    | some f => match sizeV P f.type, placesS P fs r with
      | some n, some l => some ((f.offset, n, x) :: l)
      | _, _ => none
    | none => none

def placesA (n : Nat) (l : List (Nat × Operand)) : List (Nat × Nat × Operand) := l.map fun (i, x) => (i * n, n, x)

/-- Do parts follow one another, from one place on up to another one? -/
def inRow (frm to : Nat) : List (Nat × Nat × Operand) → Bool
  | [] => Nat.beq frm to
  | (off, n, _) :: r => Nat.beq off frm && inRow (frm + n) to r

def inRowV (frm to : Nat) : List (Nat × Nat × V) → Bool
  | [] => Nat.beq frm to
  | (off, n, _) :: r => Nat.beq off frm && inRowV (frm + n) to r

theorem inRowV_le : ∀ (l : List (Nat × Nat × V)) (frm to : Nat), inRowV frm to l = true → frm ≤ to
  | [], frm, to, h => by simp [inRowV] at h; omega
  | (off, n, _) :: r, frm, to, h => by
    simp only [inRowV, Bool.and_eq_true] at h
    have := inRowV_le r _ _ h.2; omega

def keyPlain : TypeDesc → Bool
  | .int _ | .string | .bool => true
  | _ => false

def isIntD : TypeDesc → Bool
  | .int _ => true
  | _ => false

def compOp (P : Program) (eqs keys : List (TypeId × List CK)) (o : Oper) : VOp :=
  match o.op with
  | .move x | .assign x => .mv x
  | .pick c a b => .pick c a b
  | .alloc t => match zeroV P t with
    | some z => .alloc z.cells
    | none => .die
  | .box _ x => .box x
  | .build t parts =>
    match zeroV P t, P.underlying t with
    | some z, some (.struct fs) => match placesS P fs parts.toList with
      | some l => if fs.all fun f => (sizeV P f.type).isSome then (if inRow 0 z.cells.length l then .buildC (l.map (·.2)) else .build z.cells l) else .die
      | none => .die
    | some z, some (.array _ e) => match sizeV P e with
      | some n => let l := placesA n parts.toList
        if inRow 0 z.cells.length l then .buildC (l.map (·.2)) else .build z.cells l
      | none => .die
    | _, _ => .die
  | .buildSlice t len parts =>
    match P.underlying t with
    | some (.slice e) => match sizeV P e, zeroV P e with
      | some n, some z => let l := placesA n parts.toList
        if len * n ≤ 16777216 ∧ z.cells.length = n then
          if inRow 0 (len * n) l then .bsliceC n len (l.map (·.2)) else .bslice z.cells n len l
        else .die
      | _, _ => .die
    | _ => .die
  | .load t a => match aggV P t with
    | some g => .load g a
    | none => .die
  | .store t a x => match sizeV P t with
    | some n => .store n a x
    | none => .die
  | .nilCheck x => .nilCheck x
  | .binOp op t x y _ =>
    match P.underlying t with
    | some d =>
      if isPlain d then .bin op x y
      else match op with
        | .eql | .neq =>
          let neg := match op with | .neq => true | _ => false
          match d with
          | .bool => .eqB neg x y
          | .struct _ | .array _ _ => match eqs.lookup t with
            | some ks => .eqAg neg ks x y
            | none => .die
          | _ => match nilK d with
            | some k => if nilConst k y then .isNil k neg x else if nilConst k x then .isNil k neg y else .die
            | none => .die
        | _ => .die
    | none => .die
  | .unOp op _ x => .un op x
  | .convert src dst x =>
    match P.underlying src, P.underlying dst with
    | some (.int _), some (.int k) | some (.float _), some (.int k) => .toInt k x
    | some (.int _), some (.float k) | some (.float _), some (.float k) => .toFloat k x
    | some (.int _), some .string | some .string, some .string => .toStr x
    | some (.slice e), some .string =>
      match P.underlying e with
      | some (.int .u8) => .bytesStr x
      | some (.int .i32) => .runesStr x
      | _ => .die
    | _, _ => .die
  | .makeInterface t x => match P.underlying t with
    | some (.interface _) => .die
    | some _ => .mkIface t x
    | none => .die
  | .makeFunc fn first captured => .mkFunc fn first.toList captured.toList
  | .makeMap _ none => .mkMap
  | .makeSlice t l c =>
    match P.underlying t with
    | some (.slice e) => match sizeV P e, zeroV P e, bytesV P e with
      | some n, some z, some b => if z.cells.length = n then .mkSlice z.cells n b l c else .die
      | _, _, _ => .die
    | _ => .die
  | .slice t x lo hi mx =>
    match P.underlying t with
    | some (.array n e) => match sizeV P e with
      | some sz => .slArr n sz x lo hi mx
      | none => .die
    | some .string => if mx.isNone then .slStr x lo hi else .die
    | some (.slice e) => match sizeV P e with
      | some sz => .slSl sz x lo hi mx
      | none => .die
    | _ => .die
  | .fieldAddr t x i =>
    match P.underlying t with
    | some (.struct fs) => match fs[i]? with
      | some f => match sizeV P f.type with
        | some (_ + 1) => .fieldAddr f.offset x
        | _ => .die
      | none => .die
    | _ => .die
  | .field t x i =>
    match P.underlying t with
    | some (.struct fs) => match fs[i]? with
      | some f => match aggV P f.type with
        | some g => .field f.offset g x
        | _ => .die
      | none => .die
    | _ => .die
  | .indexAddr t x i =>
    match P.underlying t with
    | some (.array n e) => match sizeV P e with
      | some sz => .idxArr n sz x i
      | none => .die
    | some (.slice e) => match sizeV P e with
      | some sz => .idxSl sz x i
      | none => .die
    | _ => .die
  | .index t x i =>
    match P.underlying t with
    | some (.array n e) => match sizeV P e, aggV P e with
      | some sz, some g => .idxAg n sz g x i
      | _, _ => .die
    | some .string => .idxStr x i
    | _ => .die
  | .lookup t m k ok =>
    match P.underlying t with
    | some (.map kt e) => match zeroV P e, keys.lookup kt, P.underlying kt with
      | some z, some ks, some d => .lookup (isAggD d) ks z ok m k
      | _, _, _ => .die
    | _ => .die
  | .mapUpdate t m k v | .insert t m k v =>
    match P.underlying t with
    | some (.map kt _) => match keys.lookup kt, P.underlying kt with
      | some ks, some d => .mapSet (isAggD d) ks m k v
      | _, _ => .die
    | _ => .die
  | .range t x => match P.underlying t with
    | some .string => .range x
    | _ => .die
  | .next x true => .next x
  | .extract x i => .extract x i
  | .call c =>
    match c.callee with
    | .value f => .call f c.args.toList
    | .invoke _ _ => .die
    | .builtin b =>
      match b, c.args.toList, c.argTypes.toList with
      | .len, [x], [t] => match P.underlying t with
        | some .string => .lenStr x
        | some (.slice _) => .lenSl x
        | some (.array n _) => .lenC n
        | _ => .die
      | .cap, [x], [t] => match P.underlying t with
        | some (.slice _) => .cap x
        | _ => .die
      | .append, [s, x], [t, u] => match P.underlying t, P.underlying u with
        | some (.slice e), some d => match zeroV P e, sizeV P e, bytesV P e with
          | some z, some n, some b => if z.cells.length = n then .append (isIntD d) z.cells n b s x else .die
          | _, _, _ => .die
        | _, _ => .die
      | .copy, [d, x], [t, _] => match P.underlying t with
        | some (.slice e) => match sizeV P e with
          | some n => .copy n d x
          | none => .die
        | _ => .die
      | .clear, [x], [t] => match P.underlying t with
        | some (.slice e) => match zeroV P e with
          | some z => .clear z.cells x
          | none => .die
        | _ => .die
      | .max, x :: l, _ => .mnmx true x l
      | .min, x :: l, _ => .mnmx false x l
      | .complex, [x, y], _ => .complex x y
      | .real, [x], _ => .real x
      | .imag, [x], _ => .imag x
      | _, _, _ => .die
  | _ => .die

/-- Does an operation look at memory? -/
def memOp : VOp → Bool
  | .alloc _ | .box _ | .bslice .. | .bsliceC .. | .load .. | .store .. | .bytesStr _ | .runesStr _ | .mkMap | .mkSlice .. | .lookup .. | .mapSet .. | .range _ | .next _ | .call .. | .append .. | .copy .. | .clear .. | .slArr .. => true
  | _ => false

def guardV (ops : Array Oper) (o : Oper) : Option (Option (Nat × Bool)) :=
  match o.guard with
  | none => some none
  | some (j, b) => match (ops[j]?).bind (·.dst) with
    | some t => some (some (t, b))
    | none => none

def compOps (P : Program) (eqs keys : List (TypeId × List CK)) (ntmps : Nat) (ops : Array Oper) : List Oper → Option (List VOper)
  | [] => some []
  | o :: r =>
    match guardV ops o, compOps P eqs keys ntmps ops r with
    | some g, some l => if (match o.dst with | some d => Nat.ble (d + 1) ntmps | none => true) then some (⟨o.dst, compOp P eqs keys o, g⟩ :: l) else none
    | _, _ => none

/-! ### Regions that draw their order -/

/-- Which operations stand ahead of each, bit by bit. -/
def ancOf (acc : List Nat) (o : Oper) : Nat := o.after.foldl (fun s e => if Region.binds .any e then s ||| 2 ^ e.on ||| acc.getD e.on 0 else s) 0

def ahead (ops : List Oper) : List Nat := ops.foldl (fun acc o => acc ++ [ancOf acc o]) []

def tmpsOf (l : List Operand) : List Nat := l.filterMap fun | .tmp t => some t | _ => none

def VOp.opnds : VOp → List Operand
  | .mv x | .box x | .load _ x | .nilCheck x | .isNil _ _ x | .un _ x | .toInt _ x | .toFloat _ x | .toStr x | .bytesStr x | .runesStr x | .mkIface _ x | .fieldAddr _ x | .field _ _ x
  | .range x | .next x | .extract x _ | .lenStr x | .lenSl x | .cap x | .clear _ x | .real x | .imag x => [x]
  | .alloc _ | .die | .mkMap | .lenC _ => []
  | .pick a b c | .mapSet _ _ a b c => [a, b, c]
  | .store _ a b | .bin _ a b | .eqB _ a b | .eqAg _ _ a b | .mkSlice _ _ _ a b | .idxSl _ a b | .idxArr _ _ a b | .idxStr a b | .idxAg _ _ _ a b | .lookup _ _ _ _ a b | .append _ _ _ _ a b | .copy _ a b | .complex a b => [a, b]
  | .build _ l | .bslice _ _ _ l => l.map (·.2.2)
  | .buildC l | .bsliceC _ _ l => l.map (·.2)
  | .mkFunc _ l m => l ++ m
  | .slStr x l h => x :: (l.toList ++ h.toList)
  | .slSl _ x l h m | .slArr _ _ x l h m => x :: (l.toList ++ h.toList ++ m.toList)
  | .call f l => f :: l
  | .mnmx _ x l => x :: l

/-- What an operation looks at. -/
def looks (g : Option (Nat × Bool)) (o : VOp) : List Nat :=
  (match g with | some (t, _) => [t] | none => []) ++ tmpsOf o.opnds

def meets (d : Option Nat) (l : List Nat) : Bool := match d with | some d => l.contains d | none => false

/-- One of a region's operations: its place, those ahead of it, what it looks at, where it writes to, what it is. -/
structure DI where
  at_ : Nat
  anc : Nat
  look : List Nat
  dst : Option Nat
  op : VOp

def apartT (a b : DI) : Bool :=
  b.anc.testBit a.at_ || (!meets a.dst b.look && !meets b.dst a.look && (match a.dst, b.dst with | some x, some y => !(Nat.beq x y) | _, _ => true))

def allApart : List DI → Bool
  | [] => true
  | a :: r => r.all (apartT a) && allApart r

def isLoad : VOp → Bool
  | .load .. | .slArr .. => true
  | _ => false

/-- Loads, and what just makes a new block. -/
def floats : VOp → Bool
  | .load .. | .slArr .. | .alloc _ | .box _ | .bslice .. | .bsliceC .. | .mkMap | .mkSlice .. | .range _ => true
  | _ => false

def footed : VOp → Bool
  | .store .. | .append .. => true
  | _ => false

def ordered (a b : DI) : Bool := if Nat.blt b.at_ a.at_ then a.anc.testBit b.at_ else b.anc.testBit a.at_

/-- Is one ordered with all that look at memory, but for those that float? -/
def isWriter (all : List DI) (a : DI) : Bool :=
  memOp a.op && !floats a.op && all.all fun b => !memOp b.op || Nat.beq a.at_ b.at_ || ordered a b || (floats b.op && footed a.op)

/-- The class of one; and those ahead of it with which it is not ordered: loads and what writes. -/
def classOf (all : List DI) (a : DI) : Nat × List Nat :=
  if !memOp a.op then (0, [])
  else if isLoad a.op then (1, (all.filter fun b => Nat.blt b.at_ a.at_ && isWriter all b && !a.anc.testBit b.at_).map (·.at_))
  else if isWriter all a then (2, (all.filter fun b => Nat.blt b.at_ a.at_ && floats b.op && !a.anc.testBit b.at_).map (·.at_))
  else (1, [])

end VE
namespace VE
open Go

def dis (vops : List VOper) (ops : List Oper) : List DI :=
  (vops.zip (ops.zip (ahead ops))).zipIdx.map fun ((v, _, a), i) => ⟨i, a, looks v.guard v.op, v.dst, v.op⟩

/-- Does every edge that binds lead back? -/
def edgesBack : Nat → List Oper → Bool
  | _, [] => true
  | i, o :: r => o.after.all (fun e => !Region.binds .any e || Nat.blt e.on i) && edgesBack (i + 1) r

def compDraw (vops : List VOper) (ops : List Oper) : Option (List VDOper) :=
  let l := dis vops ops
  if allApart l && edgesBack 0 ops then some ((vops.zip l).map fun (v, a) => ⟨v, (classOf l a).1, (classOf l a).2⟩) else none

/-- hints: which temporaries each loop keeps, loop by loop. -/
def compC (P : Program) (eqs keys : List (TypeId × List CK)) (ntmps : Nat) : Code → List (List Nat) → Option (VC × List (List Nat))
  | .skip, h => some (.skip, h)
  | .region _ ops false, h => (compOps P eqs keys ntmps ops ops.toList).map fun l => (.ops l, h)
  | .region _ ops true, h =>
    match compOps P eqs keys ntmps ops ops.toList with
    | some l => (compDraw l ops.toList).map fun l => (.draw l, h)
    | none => none
  | .seq a b, h =>
    match compC P eqs keys ntmps a h with
    | some (x, h) => match compC P eqs keys ntmps b h with
      | some (y, h) => some (.seq x y, h)
      | none => none
    | none => none
  | .cond c a b, h =>
    match compC P eqs keys ntmps a h with
    | some (x, h) => match compC P eqs keys ntmps b h with
      | some (y, h) => some (.cond c x y, h)
      | none => none
    | none => none
  | .block id b, h => (compC P eqs keys ntmps b h).map fun (x, h) => (.block id x, h)
  | .loop b, h =>
    match h with
    | [] => none
    | k :: h => (compC P eqs keys ntmps b h).map fun (x, h) => (.loop k x, h)
  | .rangeFunc f ps a b, h =>
    match compC P eqs keys ntmps a h with
    | some (x, h) => match compC P eqs keys ntmps b h with
      | some (y, h) => if ps.all fun t => Nat.ble (t + 1) ntmps then some (.rangeFunc f ps.toList x y, h) else none
      | none => none
    | none => none
  | .exit id, h => some (.exit id, h)
  | .scope b, h => (compC P eqs keys ntmps b h).map fun (x, h) => (.scope x, h)
  | .label l, h => some (.label l, h)
  | .goto l, h => some (.goto l, h)
  | .ret, h => some (.ret, h)
  | .refuse _, _ => none

def compR (P : Program) : List ResultVar → Option (List VRes)
  | [] => some []
  | .tmp t :: r => (compR P r).map (.tmp t :: ·)
  | .cell t ty :: r =>
    match aggV P ty, compR P r with
    | some g, some l => some (.cell t g :: l)
    | _, _ => none

def compF (P : Program) (eqs keys : List (TypeId × List CK)) (h : List (List Nat)) (fn : Func) : Option VFn :=
  match fn.body with
  | none => none
  | some c =>
    match compC P eqs keys fn.ntmps c h, compR P fn.results.toList with
    | some (b, []), some r => if fn.name == "runtime.NumGoroutine" then none else some ⟨fn.params.size + fn.nfree, r, b⟩
    | _, _ => none

end VE

namespace VE
open Go

/-! ## What lies where -/

abbrev Rho := Nat → Option (Nat × Nat)

def csz (w : World) (b : Nat) : Nat :=
  match w.heap[b]? with
  | some (.cells c _ _) => c.size
  | _ => 0

mutual
inductive VRel (ρ : Rho) (w : World) : V → Value → Prop
  | b (x : Bool) : VRel ρ w (.b x) (.bool x)
  | i (k : IntKind) (n : Int) : VRel ρ w (.i k n) (.int k n)
  | f (k : FloatKind) (n : Nat) : VRel ρ w (.f k n) (.float k n)
  | c (k : FloatKind) (x y : Nat) : VRel ρ w (.c k x y) (.complex k x y)
  | s (bs : List UInt8) : VRel ρ w (.s bs) (.string ⟨⟨bs⟩⟩)
  | p {id off b sh : Nat} : ρ id = some (b, sh) → VRel ρ w (.p id off) (.pointer (some ⟨b, sh + off, none⟩))
  | pn : VRel ρ w .pn (.pointer none)
  | sl {id off len lb sz b sh off' cap : Nat} {ex : Bool} : ρ id = some (b, sh) → len ≤ lb → lb ≤ cap → (ex = true → cap = lb) → sh + off + cap * sz ≤ csz w b →
      (off' = sh + off ∨ cap = 0) → VRel ρ w (.sl id off len lb sz ex) (.slice (some ⟨b, off', none⟩) len cap)
  | sn : VRel ρ w .sn (.slice none 0 0)
  | m {id b sh : Nat} : ρ id = some (b, sh) → VRel ρ w (.m id) (.map (some b))
  | mn : VRel ρ w .mn (.map none)
  | fn (k : FuncId) {a c : List V} {a' c' : Array Value} : VRelL ρ w a a'.toList → VRelL ρ w c c'.toList → VRel ρ w (.fn (.func k) a c) (.func (.func k) a' c')
  | yl {id b sh : Nat} : ρ id = some (b, sh) → VRel ρ w (.yl id) (.func (.yield b) #[] #[])
  | fnn : VRel ρ w .fnn .nilFunc
  | it (t : TypeId) {v : V} {v' : Value} : VRel ρ w v v' → VRel ρ w (.it t v) (.iface t v')
  | itn : VRel ρ w .itn .nilIface
  | ag {l : List V} {cs : Array Value} : VRelL ρ w l cs.toList → VRel ρ w (.ag l) (.agg cs)
  | tu {l : List V} {cs : Array Value} : VRelL ρ w l cs.toList → VRel ρ w (.tu l) (.tuple cs)
inductive VRelL (ρ : Rho) (w : World) : List V → List Value → Prop
  | nil : VRelL ρ w [] []
  | cons {v : V} {v' : Value} {l : List V} {l' : List Value} : VRel ρ w v v' → VRelL ρ w l l' → VRelL ρ w (v :: l) (v' :: l')
end

mutual
theorem VRel.mono {ρ ρ' : Rho} {w w' : World} (h1 : ∀ id x, ρ id = some x → ρ' id = some x) (h2 : ∀ b, csz w b ≤ csz w' b) :
    ∀ {v : V} {v' : Value}, VRel ρ w v v' → VRel ρ' w' v v'
  | _, _, .b x => .b x
  | _, _, .i k n => .i k n
  | _, _, .f k n => .f k n
  | _, _, .c k x y => .c k x y
  | _, _, .s bs => .s bs
  | _, _, .p h => .p (h1 _ _ h)
  | _, _, .pn => .pn
  | _, _, .sl h a b c d e => .sl (h1 _ _ h) a b c (Nat.le_trans d (h2 _)) e
  | _, _, .sn => .sn
  | _, _, .m h => .m (h1 _ _ h)
  | _, _, .mn => .mn
  | _, _, .fn k a c => .fn k (VRelL.mono h1 h2 a) (VRelL.mono h1 h2 c)
  | _, _, .yl h => .yl (h1 _ _ h)
  | _, _, .fnn => .fnn
  | _, _, .it t h => .it t (VRel.mono h1 h2 h)
  | _, _, .itn => .itn
  | _, _, .ag h => .ag (VRelL.mono h1 h2 h)
  | _, _, .tu h => .tu (VRelL.mono h1 h2 h)
theorem VRelL.mono {ρ ρ' : Rho} {w w' : World} (h1 : ∀ id x, ρ id = some x → ρ' id = some x) (h2 : ∀ b, csz w b ≤ csz w' b) :
    ∀ {l : List V} {l' : List Value}, VRelL ρ w l l' → VRelL ρ' w' l l'
  | _, _, .nil => .nil
  | _, _, .cons h t => .cons (VRel.mono h1 h2 h) (VRelL.mono h1 h2 t)
end

section
variable {ρ : Rho} {w : World}

theorem VRelL.length : ∀ {l : List V} {l' : List Value}, VRelL ρ w l l' → l.length = l'.length
  | _, _, .nil => rfl
  | _, _, .cons _ t => by simp [VRelL.length t]

theorem VRelL.append : ∀ {l m : List V} {l' m' : List Value}, VRelL ρ w l l' → VRelL ρ w m m' → VRelL ρ w (l ++ m) (l' ++ m')
  | _, _, _, _, .nil, h => h
  | _, _, _, _, .cons a t, h => .cons a (VRelL.append t h)

theorem VRelL.get : ∀ {l : List V} {l' : List Value}, VRelL ρ w l l' → ∀ {i : Nat} {v : V}, l[i]? = some v → ∃ v', l'[i]? = some v' ∧ VRel ρ w v v'
  | _, _, .nil, i, v, h => by simp at h
  | _, _, .cons a t, i, v, h => by
    cases i with
    | zero => simp at h; subst h; exact ⟨_, rfl, a⟩
    | succ i => simpa using VRelL.get t (by simpa using h)

theorem VRelL.of_get : ∀ {l : List V} {l' : List Value}, l.length = l'.length → (∀ (i : Nat) (v : V), l[i]? = some v → ∃ v', l'[i]? = some v' ∧ VRel ρ w v v') → VRelL ρ w l l'
  | [], [], _, _ => .nil
  | [], _ :: _, h, _ => by simp at h
  | _ :: _, [], h, _ => by simp at h
  | v :: l, v' :: l', h, hg => by
    obtain ⟨u, hu, hr⟩ := hg 0 v rfl
    simp at hu; subst hu
    exact .cons hr (VRelL.of_get (by simpa using h) fun i x hx => by simpa using hg (i + 1) x (by simpa using hx))

theorem VRelL.take : ∀ {l : List V} {l' : List Value}, VRelL ρ w l l' → ∀ n, VRelL ρ w (l.take n) (l'.take n)
  | _, _, h, 0 => by simpa using .nil
  | _, _, .nil, _ + 1 => .nil
  | _, _, .cons a t, n + 1 => .cons a (VRelL.take t n)

theorem VRelL.drop : ∀ {l : List V} {l' : List Value}, VRelL ρ w l l' → ∀ n, VRelL ρ w (l.drop n) (l'.drop n)
  | _, _, h, 0 => h
  | _, _, .nil, _ + 1 => .nil
  | _, _, .cons _ t, n + 1 => VRelL.drop t n

theorem VRelL.replicate {v : V} {v' : Value} (h : VRel ρ w v v') : ∀ n, VRelL ρ w (List.replicate n v) (List.replicate n v')
  | 0 => .nil
  | n + 1 => .cons h (VRelL.replicate h n)

theorem VRel.cells {v : V} {v' : Value} (h : VRel ρ w v v') : VRelL ρ w v.cells v'.cells.toList := by
  cases h with
  | ag h => exact h
  | b x => exact .cons (.b x) .nil
  | i k n => exact .cons (.i k n) .nil
  | f k n => exact .cons (.f k n) .nil
  | c k x y => exact .cons (.c k x y) .nil
  | s bs => exact .cons (.s bs) .nil
  | p h => exact .cons (.p h) .nil
  | pn => exact .cons .pn .nil
  | sl h a b c d e => exact .cons (.sl h a b c d e) .nil
  | sn => exact .cons .sn .nil
  | m h => exact .cons (.m h) .nil
  | mn => exact .cons .mn .nil
  | fn k a c => exact .cons (.fn k a c) .nil
  | yl h => exact .cons (.yl h) .nil
  | fnn => exact .cons .fnn .nil
  | it t h => exact .cons (.it t h) .nil
  | itn => exact .cons .itn .nil
  | tu h => exact .cons (.tu h) .nil

/-- Constants. -/
theorem cv1_rel {v : Value} {x : V} (h : cv1 v = some x) : VRel ρ w x v := by
  unfold cv1 at h
  split at h <;> first | (injection h with h; subst h; constructor) | (simp at h)

theorem cvL_rel : ∀ {l : List Value} {xs : List V}, cvL l = some xs → VRelL ρ w xs l
  | [], xs, h => by simp [cvL] at h; subst h; exact .nil
  | v :: r, xs, h => by
    simp only [cvL] at h
    split at h
    · rename_i x ys h1 h2; injection h with h; subst h; exact .cons (cv1_rel h1) (cvL_rel h2)
    · simp at h

theorem cv_rel {v : Value} {x : V} (h : cv v = some x) : VRel ρ w x v := by
  unfold cv at h
  split at h
  · rename_i cs
    cases hl : cvL cs.toList with
    | none => simp [hl] at h
    | some l => simp [hl] at h; subst h; exact .ag (cvL_rel hl)
  · exact cv1_rel h
end

/-! ## Code -/

inductive CRel (P : Program) (eqs keys : List (TypeId × List CK)) (nt : Nat) : Code → VC → Prop
  | skip : CRel P eqs keys nt .skip .skip
  | ops {id : Nat} {ops : Array Oper} {l : List VOper} : compOps P eqs keys nt ops ops.toList = some l → CRel P eqs keys nt (.region id ops false) (.ops l)
  | draw {id : Nat} {ops : Array Oper} {l : List VOper} {d : List VDOper} : compOps P eqs keys nt ops ops.toList = some l → compDraw l ops.toList = some d →
      CRel P eqs keys nt (.region id ops true) (.draw d)
  | seq {a b : Code} {x y : VC} : CRel P eqs keys nt a x → CRel P eqs keys nt b y → CRel P eqs keys nt (.seq a b) (.seq x y)
  | cond (c : Operand) {a b : Code} {x y : VC} : CRel P eqs keys nt a x → CRel P eqs keys nt b y → CRel P eqs keys nt (.cond c a b) (.cond c x y)
  | block (id : Nat) {b : Code} {y : VC} : CRel P eqs keys nt b y → CRel P eqs keys nt (.block id b) (.block id y)
  | loop (k : List Nat) {b : Code} {y : VC} : CRel P eqs keys nt b y → CRel P eqs keys nt (.loop b) (.loop k y)
  | rangeFunc (f : Operand) {ps : Array Tmp} {a b : Code} {x y : VC} : CRel P eqs keys nt a x → CRel P eqs keys nt b y → (∀ t ∈ ps, t < nt) →
      CRel P eqs keys nt (.rangeFunc f ps a b) (.rangeFunc f ps.toList x y)
  | exit (id : Nat) : CRel P eqs keys nt (.exit id) (.exit id)
  | scope {b : Code} {y : VC} : CRel P eqs keys nt b y → CRel P eqs keys nt (.scope b) (.scope y)
  | label (l : Nat) : CRel P eqs keys nt (.label l) (.label l)
  | goto (l : Nat) : CRel P eqs keys nt (.goto l) (.goto l)
  | ret : CRel P eqs keys nt .ret .ret

theorem compC_rel {P : Program} {eqs keys : List (TypeId × List CK)} {nt : Nat} : ∀ (c : Code) (h : List (List Nat)) (v : VC) (h' : List (List Nat)),
    compC P eqs keys nt c h = some (v, h') → CRel P eqs keys nt c v := by
  intro c
  induction c with
  | skip => intro h v h' e; simp [compC] at e; obtain ⟨rfl, _⟩ := e; exact .skip
  | region id ops d =>
    intro h v h' e
    cases d with
    | false =>
      simp only [compC, Option.map_eq_some_iff] at e
      obtain ⟨l, hl, e⟩ := e
      injection e with e1 e2; subst e1; exact .ops hl
    | true =>
      simp only [compC] at e
      split at e
      · rename_i l hl
        simp only [Option.map_eq_some_iff] at e
        obtain ⟨d, hd, e⟩ := e
        injection e with e1 e2; subst e1; exact .draw hl hd
      · simp at e
  | seq a b iha ihb =>
    intro h v h' e
    simp only [compC] at e
    split at e
    · rename_i x h1 hx
      split at e
      · rename_i y h2 hy
        simp at e; obtain ⟨rfl, _⟩ := e
        exact .seq (iha _ _ _ hx) (ihb _ _ _ hy)
      · simp at e
    · simp at e
  | cond c a b iha ihb =>
    intro h v h' e
    simp only [compC] at e
    split at e
    · rename_i x h1 hx
      split at e
      · rename_i y h2 hy
        simp at e; obtain ⟨rfl, _⟩ := e
        exact .cond _ (iha _ _ _ hx) (ihb _ _ _ hy)
      · simp at e
    · simp at e
  | block id b ih =>
    intro h v h' e
    simp only [compC, Option.map_eq_some_iff] at e
    obtain ⟨⟨x, h1⟩, hx, e⟩ := e
    injection e with e1 e2; subst e1; exact .block _ (ih _ _ _ hx)
  | loop b ih =>
    intro h v h' e
    simp only [compC] at e
    split at e
    · simp at e
    · simp only [Option.map_eq_some_iff] at e
      obtain ⟨⟨x, h1⟩, hx, e⟩ := e
      injection e with e1 e2; subst e1; exact .loop _ (ih _ _ _ hx)
  | rangeFunc f ps a b iha ihb =>
    intro h v h' e
    simp only [compC] at e
    split at e
    · rename_i x h1 hx
      split at e
      · rename_i y h2 hy
        split at e
        · rename_i hp
          simp at e; obtain ⟨rfl, _⟩ := e
          refine .rangeFunc _ (iha _ _ _ hx) (ihb _ _ _ hy) ?_
          intro t ht
          have := Array.all_eq_true_iff_forall_mem.1 hp t ht
          exact Nat.le_of_ble_eq_true this
        · simp at e
      · simp at e
    · simp at e
  | exit id => intro h v h' e; simp [compC] at e; obtain ⟨rfl, _⟩ := e; exact .exit _
  | scope b ih =>
    intro h v h' e
    simp only [compC, Option.map_eq_some_iff] at e
    obtain ⟨⟨x, h1⟩, hx, e⟩ := e
    injection e with e1 e2; subst e1; exact .scope (ih _ _ _ hx)
  | label l => intro h v h' e; simp [compC] at e; obtain ⟨rfl, _⟩ := e; exact .label _
  | goto l => intro h v h' e; simp [compC] at e; obtain ⟨rfl, _⟩ := e; exact .goto _
  | ret => intro h v h' e; simp [compC] at e; obtain ⟨rfl, _⟩ := e; exact .ret
  | refuse w => intro h v h' e; simp [compC] at e

theorem findLabel_rel {P : Program} {eqs keys : List (TypeId × List CK)} {nt : Nat} {c : Code} {v : VC} (h : CRel P eqs keys nt c v) : ∀ (l : Nat) (r : VC), findLabelV v l = some r →
    ∃ rc, findLabel c l = some rc ∧ CRel P eqs keys nt rc r := by
  induction h with
  | seq ha hb iha ihb =>
    intro l r e
    simp only [findLabelV] at e
    split at e
    · rename_i rest hr
      injection e with e; subst e
      obtain ⟨rc, h1, h2⟩ := iha _ _ hr
      exact ⟨_, by simp [findLabel, h1], .seq h2 hb⟩
    · rename_i hn
      obtain ⟨rc, h1, h2⟩ := ihb _ _ e
      have hna : ∀ {a : Code} {x : VC}, CRel P eqs keys nt a x → ∀ l, findLabelV x l = none → findLabel a l = none := by
        intro a x hax
        induction hax with
        | seq _ _ i1 i2 =>
          intro l e
          simp only [findLabelV] at e
          split at e
          · simp at e
          · rename_i h0; simp [findLabel, i1 l h0, i2 l e]
        | label l' => intro l e; simp only [findLabelV] at e; simp only [findLabel]; split at e <;> simp_all
        | _ => intro l e; rfl
      exact ⟨rc, by simp [findLabel, hna ha l hn, h1], h2⟩
  | label l' =>
    intro l r e
    simp only [findLabelV] at e
    split at e
    · rename_i hl; injection e with e; subst e; exact ⟨.skip, by simp [findLabel, hl], .skip⟩
    · simp at e
  | _ => intro l r e; simp [findLabelV] at e

/-! ## The heap -/

def jumpC : VX → Option Code
  | .nrm => none
  | .exit id => some (.exit id)
  | .goto l => some (.goto l)
  | .ret => some .ret

def FRel (ρ : Rho) (w : World) (fr : Fr) (tmps : Array Value) : Prop := ∀ t v, fr.get t = some v → ∃ v', tmps[t]? = some v' ∧ VRel ρ w v v'

structure Env where
  P : Program
  eqs : List (TypeId × List CK)
  keys : List (TypeId × List CK)

def ORel (E : Env) (ρ : Rho) (w : World) (o : VO) (b sh : Nat) : Prop :=
  match o with
  | .cells cs => ∃ c t, w.heap[b]? = some (.cells c t (0, 0)) ∧ sh + cs.length ≤ c.size ∧ ∀ i v, cs[i]? = some v → ∃ v', c[sh + i]? = some v' ∧ VRel ρ w v v'
  | .ro cs => ∃ c t f, w.heap[b]? = some (.cells c t f) ∧ sh + cs.length ≤ c.size ∧ ∀ i v, cs[i]? = some (some v) → ∃ v', c[sh + i]? = some v' ∧ VRel ρ w v v'
  | .dead => True
  | .map es => ∃ (arr : Array MapEntry) (clock : Nat), w.heap[b]? = some (.map arr clock) ∧ VRelL ρ w (es.map (·.1)) (arr.toList.map (·.key)) ∧ VRelL ρ w (es.map (·.2)) (arr.toList.map (·.val))
  | .iter s pos => sh = 0 ∧ w.heap[b]? = some (.stringIter ⟨⟨s⟩⟩ pos)
  | .loop st pend fr ps x y => ∃ L : Loop, w.heap[b]? = some (.loop L) ∧ L.state = st ∧ L.pending = pend.bind jumpC ∧ (pend = some .nrm → False) ∧ L.params.toList = ps ∧ FRel ρ w fr L.tmps ∧
      ∃ nt, nt ≤ L.tmps.size ∧ (∀ t ∈ ps, t < nt) ∧ CRel E.P E.eqs E.keys nt L.assign x ∧ CRel E.P E.eqs E.keys nt L.body y

def isDead : VO → Bool
  | .dead => true
  | _ => false

def alive (s : St) (id : Nat) : Prop := ∃ o, s.heap.get id = some o ∧ isDead o = false

structure WR (E : Env) (ρ : Rho) (s : St) (w : World) : Prop where
  obj : ∀ id b sh o, ρ id = some (b, sh) → s.heap.get id = some o → ORel E ρ w o b sh
  lt : ∀ id b sh, ρ id = some (b, sh) → b < w.heap.size
  inj : ∀ id id' b sh sh', ρ id = some (b, sh) → ρ id' = some (b, sh') → alive s id → alive s id' → id = id'
  fresh : ∀ id, s.next ≤ id → s.heap.get id = none

/-- What is not the place of a block that may be written to stays. -/
def Kp (lo : Nat) (ρ : Rho) (s : St) (w w' : World) : Prop :=
  ∀ b o, w.heap[b]? = some o → (∀ id sh, ρ id = some (b, sh) → alive s id → id < lo) → w'.heap[b]? = some o

/-- The records of loops stay. -/
def KL (w w' : World) : Prop := ∀ (b : Nat) (L : Loop), w.heap[b]? = some (.loop L) → ∃ L' : Loop, w'.heap[b]? = some (.loop L') ∧ L'.defers = L.defers

theorem KL.refl (w : World) : KL w w := fun _ L h => ⟨L, h, rfl⟩

theorem KL.trans {w w1 w2 : World} (h : KL w w1) (h' : KL w1 w2) : KL w w2 := fun b L hb =>
  let ⟨L1, h1, e1⟩ := h b L hb
  let ⟨L2, h2, e2⟩ := h' b L1 h1
  ⟨L2, h2, e2.trans e1⟩

structure Stp (E : Env) (lo : Nat) (ρ : Rho) (s : St) (w : World) (ρ' : Rho) (s' : St) (w' : World) : Prop where
  ext : ∀ id x, ρ id = some x → ρ' id = some x
  new : ∀ id x, ρ id = none → ρ' id = some x → s.next ≤ id ∧ id < s'.next
  newb : ∀ id b sh, ρ id = none → ρ' id = some (b, sh) → w.heap.size ≤ b ∨ ∃ id0 sh0, ρ id0 = some (b, sh0) ∧ alive s id0 ∧ lo ≤ id0
  sz : ∀ b, csz w b ≤ csz w' b
  size : w.heap.size ≤ w'.heap.size
  keep : Kp lo ρ s w w'
  loops : KL w w'
  wr : WR E ρ' s' w'
  oo : w'.os = w.os ∧ w'.output = w.output

/-- Of the evaluator alone: what is below lo stays, what is dead or not there does not come back. -/
structure VK (lo : Nat) (s s' : St) : Prop where
  next : s.next ≤ s'.next
  low : ∀ id, id < lo → s'.heap.get id = s.heap.get id
  rev : ∀ id, id < s.next → alive s' id → alive s id
  fresh : (∀ id, s.next ≤ id → s.heap.get id = none) → ∀ id, s'.next ≤ id → s'.heap.get id = none

theorem VK.refl (lo : Nat) (s : St) : VK lo s s := ⟨Nat.le_refl _, fun _ _ => rfl, fun _ _ h => h, fun h => h⟩

theorem VK.trans {lo : Nat} {s s1 s2 : St} (h : VK lo s s1) (h' : VK lo s1 s2) : VK lo s s2 :=
  ⟨Nat.le_trans h.next h'.next, fun id hi => (h'.low id hi).trans (h.low id hi), fun id hi ha => h.rev id hi (h'.rev id (Nat.lt_of_lt_of_le hi h.next) ha), fun hf => h'.fresh (h.fresh hf)⟩

def Und (ρ : Rho) (s s' : St) : Prop := ∀ id, s.next ≤ id → id < s'.next → ρ id = none

theorem Stp.refl {E : Env} {ρ : Rho} {s : St} {w : World} (lo : Nat) (h : WR E ρ s w) : Stp E lo ρ s w ρ s w :=
  ⟨fun _ _ h => h, fun id x h h' => by rw [h] at h'; simp at h', fun id b sh h h' => by rw [h] at h'; simp at h', fun _ => Nat.le_refl _, Nat.le_refl _, fun _ _ h _ => h, .refl _, h, rfl, rfl⟩

theorem Stp.trans {E : Env} {lo : Nat} {ρ ρ1 ρ2 : Rho} {s s1 s2 : St} {w w1 w2 : World} (h : Stp E lo ρ s w ρ1 s1 w1) (h' : Stp E lo ρ1 s1 w1 ρ2 s2 w2)
    (hv : VK lo s s1) (hv' : VK lo s1 s2) (hu : Und ρ s s2) (hw : WR E ρ s w) : Stp E lo ρ s w ρ2 s2 w2 := by
  have revive : ∀ id x, ρ id = some x → alive s1 id → alive s id := by
    intro id x hx ha
    by_cases hn : id < s.next
    · exact hv.rev id hn ha
    · exfalso
      by_cases hn1 : id < s1.next
      · have := hu id (by omega) (Nat.lt_of_lt_of_le hn1 hv'.next); rw [hx] at this; simp at this
      · obtain ⟨o, ho, _⟩ := ha
        have := hv.fresh hw.fresh id (by omega); rw [ho] at this; simp at this
  refine ⟨fun id x hx => h'.ext _ _ (h.ext _ _ hx), ?_, ?_, fun b => Nat.le_trans (h.sz b) (h'.sz b), Nat.le_trans h.size h'.size, ?_, h.loops.trans h'.loops, h'.wr, h'.oo.1.trans h.oo.1, h'.oo.2.trans h.oo.2⟩
  · intro id x hn hx
    cases h1 : ρ1 id with
    | none => have := h'.new id x h1 hx; exact ⟨Nat.le_trans hv.next this.1, this.2⟩
    | some y => have := h.new id y hn h1; exact ⟨this.1, Nat.lt_of_lt_of_le this.2 hv'.next⟩
  · intro id b sh hn hx
    cases h1 : ρ1 id with
    | some y =>
      have := h'.ext _ _ h1; rw [hx] at this; injection this with this; subst this
      exact h.newb id b sh hn h1
    | none =>
      rcases h'.newb id b sh h1 hx with hb | ⟨id0, sh0, h0, ha, hl⟩
      · exact .inl (Nat.le_trans h.size hb)
      · cases h2 : ρ id0 with
        | none => exact h.newb id0 b sh0 h2 h0
        | some y =>
          have := h.ext _ _ h2; rw [h0] at this; injection this with this; subst this
          exact .inr ⟨id0, sh0, h2, revive _ _ h2 ha, hl⟩
  · intro b o hb hk
    have hlt : b < w.heap.size := by
      rcases Nat.lt_or_ge b w.heap.size with h0 | h0
      · exact h0
      · rw [Array.getElem?_eq_none h0] at hb; simp at hb
    refine h'.keep b o (h.keep b o hb hk) ?_
    intro id sh hx ha
    cases h1 : ρ id with
    | some y =>
      have := h.ext _ _ h1; rw [hx] at this; injection this with this; subst this
      exact hk id sh h1 (revive _ _ h1 ha)
    | none =>
      rcases h.newb id b sh h1 hx with hb' | ⟨id0, sh0, h0, ha0, hl⟩
      · omega
      · have := hk id0 sh0 h0 ha0; omega

theorem FRel.mono {ρ ρ' : Rho} {w w' : World} {fr : Fr} {t : Array Value} (h1 : ∀ id x, ρ id = some x → ρ' id = some x) (h2 : ∀ b, csz w b ≤ csz w' b) (h : FRel ρ w fr t) : FRel ρ' w' fr t :=
  fun i v hv => let ⟨v', a, b⟩ := h i v hv; ⟨v', a, b.mono h1 h2⟩

end VE

namespace VE
open Go

theorem get_alloc (s : St) (o : VO) (id : Nat) : (s.alloc o).heap.get id = if id = s.next then some o else s.heap.get id := Tr.get_set _ _ _ _
theorem get_put (s : St) (k : Nat) (o : VO) (id : Nat) : (s.put k o).heap.get id = if id = k then some o else s.heap.get id := Tr.get_set _ _ _ _
theorem next_alloc (s : St) (o : VO) : (s.alloc o).next = s.next + 1 := rfl
theorem next_put (s : St) (k : Nat) (o : VO) : (s.put k o).next = s.next := rfl

theorem VK.alloc {lo : Nat} {s : St} (hl : lo ≤ s.next) (o : VO) : VK lo s (s.alloc o) := by
  refine ⟨by simp [next_alloc], ?_, ?_, ?_⟩
  · intro id hi; rw [get_alloc, if_neg (by omega)]
  · rintro id hi ⟨x, hx, hd⟩; rw [get_alloc, if_neg (by omega)] at hx; exact ⟨x, hx, hd⟩
  · intro h id hi; rw [next_alloc] at hi; rw [get_alloc, if_neg (by omega)]; exact h id (by omega)

theorem VK.put {lo : Nat} {s : St} {k : Nat} (o : VO) (hl : lo ≤ k) (ha : alive s k) : VK lo s (s.put k o) := by
  refine ⟨Nat.le_refl _, ?_, ?_, ?_⟩
  · intro id hi; rw [get_put, if_neg (by omega)]
  · rintro id hi ⟨x, hx, hd⟩
    rw [get_put] at hx
    split at hx
    · rename_i e; subst e; exact ha
    · exact ⟨x, hx, hd⟩
  · intro h id hi
    rw [next_put] at hi
    rw [get_put]
    split
    · rename_i e; subst e; obtain ⟨x, hx, _⟩ := ha; rw [h id hi] at hx; simp at hx
    · exact h id hi

theorem wr_some {lo : Nat} {s : St} {id off : Nat} {vs : List V} {s' : St} (h : s.wr lo id off vs = some s') :
    ∃ cs, lo ≤ id ∧ s.heap.get id = some (.cells cs) ∧ (off + vs.length ≤ cs.length ∧ vs.all V.ok1 = true) ∧ s' = s.put id (.cells (splice cs off vs)) := by
  unfold St.wr at h
  split at h
  · simp at h
  · split at h
    · rename_i cs hc
      split at h
      · rename_i hle; injection h with h; exact ⟨cs, by omega, hc, hle, h.symm⟩
      · simp at h
    · simp at h

theorem rd_some {s : St} {id off n : Nat} {vs : List V} (h : s.rd id off n = some vs) :
    (∃ cs, s.heap.get id = some (.cells cs) ∧ off + n ≤ cs.length ∧ vs = (cs.drop off).take n) ∨
    (∃ cs, s.heap.get id = some (.ro cs) ∧ off + n ≤ cs.length ∧ allS ((cs.drop off).take n) = some vs) := by
  unfold St.rd at h
  split at h
  · rename_i cs hc
    split at h
    · rename_i hle; injection h with h; exact .inl ⟨cs, hc, hle, h.symm⟩
    · simp at h
  · rename_i cs hc
    split at h
    · rename_i hle; exact .inr ⟨cs, hc, hle, h⟩
    · simp at h
  · simp at h

theorem rd_alive {s : St} {id off n : Nat} {vs : List V} (h : s.rd id off n = some vs) : ∃ o, s.heap.get id = some o ∧ isDead o = false := by
  rcases rd_some h with ⟨cs, h, _⟩ | ⟨cs, h, _⟩ <;> exact ⟨_, h, rfl⟩

theorem rd_congr {s s' : St} {id : Nat} (h : s'.heap.get id = s.heap.get id) (off n : Nat) : s'.rd id off n = s.rd id off n := by
  unfold St.rd; rw [h]

theorem allS_get : ∀ {l : List (Option V)} {vs : List V}, allS l = some vs → l = vs.map some
  | [], vs, h => by simp [allS] at h; subst h; rfl
  | x :: r, vs, h => by
    simp only [allS] at h
    split at h
    · rename_i v vs' hx hr
      injection h with h; subst h
      rw [allS_get hr]; rfl
    · simp at h

theorem VK.wr {lo : Nat} {s : St} {id off : Nat} {vs : List V} {s' : St} (h : s.wr lo id off vs = some s') : VK lo s s' := by
  obtain ⟨cs, hl, hc, _, rfl⟩ := wr_some h
  exact .put _ hl ⟨_, hc, rfl⟩

structure VKOrc (o : Orc) : Prop where
  call : ∀ {lo k args s v s'}, lo ≤ s.next → o.call lo k args s = some (v, s') → VK lo s s'
  loop : ∀ {lo kp b fr s x fr' s'}, lo ≤ s.next → o.loop lo kp b fr s = some (x, fr', s') → VK lo s s'
  jump : ∀ {lo b c fr s x fr' s'}, lo ≤ s.next → o.jump lo b c fr s = some (x, fr', s') → VK lo s s'
  round : ∀ {lo id args s v s'}, lo ≤ s.next → o.round lo id args s = some (v, s') → VK lo s s'

theorem VK.callV {o : Orc} (ho : VKOrc o) {lo : Nat} {f : V} {args : List V} {s : St} {v : V} {s' : St} (hl : lo ≤ s.next) (h : callV o lo f args s = some (v, s')) : VK lo s s' := by
  unfold VE.callV at h
  split at h
  · exact ho.call hl h
  · exact ho.round hl h
  · simp at h

theorem VK.appendV {lo : Nat} {mk : Bool} {z : List V} {sz bytes : Nat} {sv x : V} {s : St} {v : V} {s' : St} (hl : lo ≤ s.next) (h : appendV lo mk z sz bytes sv x s = some (v, s')) : VK lo s s' := by
  unfold VE.appendV at h
  split at h
  · simp at h
  · split at h
    · simp at h; obtain ⟨_, rfl⟩ := h; exact .refl _ _
    · split at h
      · simp at h; obtain ⟨_, rfl⟩ := h; exact .refl _ _
      · simp at h
    · simp at h
  · split at h
    · split at h
      · simp at h; obtain ⟨_, rfl⟩ := h; exact .alloc hl _
      · simp at h
    · split at h
      · split at h
        · simp only [Option.map_eq_some_iff] at h
          obtain ⟨s1, h1, h2⟩ := h
          simp at h2; obtain ⟨_, rfl⟩ := h2
          exact .wr h1
        · split at h
          · simp at h
          · rename_i old hold
            split at h
            · simp at h; obtain ⟨_, rfl⟩ := h; exact .alloc hl _
            · split at h
              · simp at h
              · rename_i hlo
                split at h
                · rename_i hc
                  split at h
                  · simp at h; obtain ⟨_, rfl⟩ := h
                    exact (VK.put _ (by omega) ⟨_, hc, rfl⟩).trans (.alloc (by simpa [next_put] using hl) _)
                  · simp at h
                · simp at h
      · simp at h
    · simp at h

/-- What an operation that does not look at memory leaves. -/
theorem opV_pure {o : Orc} {lo : Nat} {fr : Fr} {op : VOp} {s : St} {v : V} {s' : St} (hm : memOp op = false) (h : opV o lo fr op s = some (v, s')) : s' = s := by
  cases op <;> simp only [memOp, Bool.true_eq_false, reduceCtorEq] at hm <;> simp only [opV] at h <;>
    (repeat' split at h) <;> simp only [Option.map_eq_some_iff, Option.some.injEq, Prod.mk.injEq, reduceCtorEq] at h <;>
    first
      | exact h.2.symm
      | exact h.elim
      | (obtain ⟨_, _, h2⟩ := h; first | exact h2.2.symm | (injection h2 with _ h3; exact h3.symm))

theorem VK.opV {o : Orc} (ho : VKOrc o) {lo : Nat} {fr : Fr} {op : VOp} {s : St} {v : V} {s' : St} (hl : lo ≤ s.next) (h : opV o lo fr op s = some (v, s')) : VK lo s s' := by
  by_cases hm : memOp op = false
  · rw [opV_pure hm h]; exact .refl _ _
  · have ml : ∀ {α : Type} {a : Option α} {f : α → V × St}, (a.map f = some (v, s')) → (∀ x, (f x).2 = s) → s' = s := by
      intro α a f e hf
      rw [Option.map_eq_some_iff] at e
      obtain ⟨x, _, e⟩ := e
      have := hf x; rw [e] at this; exact this
    cases op <;> simp only [memOp, not_true, Bool.true_eq_false, not_false_iff] at hm <;> simp only [VE.opV] at h
    case alloc z => injection h with h; injection h with _ h; subst h; exact .alloc hl _
    case box x => split at h <;> simp at h; obtain ⟨_, rfl⟩ := h; exact .alloc hl _
    case bslice z sz len parts => (repeat' split at h) <;> simp at h; obtain ⟨_, rfl⟩ := h; exact .alloc hl _
    case bsliceC sz len parts => (repeat' split at h) <;> simp at h; obtain ⟨_, rfl⟩ := h; exact .alloc hl _
    case load ag a =>
      (repeat' split at h) <;> first | (simp at h; done) | (rw [ml h fun _ => rfl]; exact .refl _ _)
    case slArr n sz x lo' hi mx =>
      (repeat' split at h) <;> first | (simp at h; done) | (rw [ml h fun _ => rfl]; exact .refl _ _)
    case store n a x =>
      (repeat' split at h) <;> first
        | (simp at h; done)
        | (rw [Option.map_eq_some_iff] at h; obtain ⟨s1, h1, h2⟩ := h; injection h2 with _ h2; subst h2; exact .wr h1)
    case bytesStr x => (repeat' split at h) <;> first | (simp at h; done) | (simp at h; obtain ⟨_, rfl⟩ := h; exact .refl _ _) | (rw [ml h fun _ => rfl]; exact .refl _ _)
    case runesStr x => (repeat' split at h) <;> first | (simp at h; done) | (simp at h; obtain ⟨_, rfl⟩ := h; exact .refl _ _) | (rw [ml h fun _ => rfl]; exact .refl _ _)
    case mkMap => injection h with h; injection h with _ h; subst h; exact .alloc hl _
    case mkSlice z sz bytes len cap => (repeat' split at h) <;> simp at h; obtain ⟨_, rfl⟩ := h; exact .alloc hl _
    case lookup ag ks z ok m k =>
      (repeat' split at h) <;> first | (simp at h; done) | (rw [ml h fun _ => rfl]; exact .refl _ _)
    case mapSet ag ks m k v =>
      (repeat' split at h) <;> first
        | (simp at h; done)
        | (rename_i hlo _ _ hc _; rw [Option.map_eq_some_iff] at h; obtain ⟨s1, h1, h2⟩ := h; injection h2 with _ h2; subst h2; exact .put _ (by omega) ⟨_, hc, rfl⟩)
    case range x => (repeat' split at h) <;> simp at h; obtain ⟨_, rfl⟩ := h; exact .alloc hl _
    case next x =>
      (repeat' split at h) <;> first
        | (simp at h; done)
        | (rename_i hlo _ _ _ hc _; simp at h; obtain ⟨_, rfl⟩ := h; exact .put _ (by omega) ⟨_, hc, rfl⟩)
        | (simp at h; obtain ⟨_, rfl⟩ := h; exact .refl _ _)
    case call f args => (repeat' split at h) <;> first | (simp at h; done) | exact .callV ho hl h
    case append mk z sz bytes a x => (repeat' split at h) <;> first | (simp at h; done) | exact .appendV hl h
    case copy sz d x =>
      (repeat' split at h) <;> first
        | (simp at h; done)
        | (simp at h; obtain ⟨_, rfl⟩ := h; exact .refl _ _)
        | (rw [Option.map_eq_some_iff] at h; obtain ⟨s1, h1, h2⟩ := h; injection h2 with _ h2; subst h2; exact .wr h1)
    case clear z x =>
      (repeat' split at h) <;> first
        | (simp at h; done)
        | (simp at h; obtain ⟨_, rfl⟩ := h; exact .refl _ _)
        | (rw [Option.map_eq_some_iff] at h; obtain ⟨s1, h1, h2⟩ := h; injection h2 with _ h2; subst h2; exact .wr h1)

theorem VK.opsV {o : Orc} (ho : VKOrc o) {lo : Nat} : ∀ (l : List VOper) {fr : Fr} {s : St} {fr' : Fr} {s' : St}, lo ≤ s.next → opsV o lo l fr s = some (fr', s') → VK lo s s' := by
  intro l
  induction l with
  | nil => intro fr s fr' s' hl h; simp [VE.opsV] at h; obtain ⟨_, rfl⟩ := h; exact .refl _ _
  | cons x r ih =>
    intro fr s fr' s' hl h
    simp only [VE.opsV] at h
    split at h
    · split at h
      · rename_i v s1 h1
        have k1 := VK.opV ho hl h1
        exact k1.trans (ih (Nat.le_trans hl k1.next) h)
      · simp at h
    · exact ih hl h
    · simp at h

theorem VK.loMono {lo lo' : Nat} {s s' : St} (h : VK lo' s s') (hl : lo ≤ lo') : VK lo s s' := ⟨h.next, fun id hi => h.low id (by omega), h.rev, h.fresh⟩

theorem VK.drawV {o : Orc} (ho : VKOrc o) {lo : Nat} : ∀ (l : List VDOper) {i : Nat} {ft : List (Nat × Nat × Nat × Nat)} {fr : Fr} {s : St} {fr' : Fr} {s' : St}, lo ≤ s.next → drawV o lo i l ft fr s = some (fr', s') → VK lo s s' := by
  intro l
  induction l with
  | nil => intro i ft fr s fr' s' hl h; simp [VE.drawV] at h; obtain ⟨_, rfl⟩ := h; exact .refl _ _
  | cons x r ih =>
    intro i ft fr s fr' s' hl h
    have key : ∀ {v : V} {s1 : St}, VE.opV o (if x.cls = 1 then s.next else lo) fr x.o.op s = some (v, s1) → VK lo s s1 := by
      intro v s1 h1
      split at h1
      · exact (VK.opV ho (Nat.le_refl _) h1).loMono hl
      · exact VK.opV ho hl h1
    simp only [VE.drawV] at h
    split at h
    · split at h
      · split at h
        · split at h
          · rename_i v s1 h1
            have k1 := key h1
            exact k1.trans (ih (Nat.le_trans hl k1.next) h)
          · simp at h
        · simp at h
      · split at h
        · rename_i v s1 h1
          have k1 := key h1
          exact k1.trans (ih (Nat.le_trans hl k1.next) h)
        · simp at h
    · exact ih hl h
    · simp at h

theorem VK.X {o : Orc} (ho : VKOrc o) {lo : Nat} : ∀ (c : VC) {fr : Fr} {s : St} {x : VX} {fr' : Fr} {s' : St}, lo ≤ s.next → X o lo c fr s = some (x, fr', s') → VK lo s s' := by
  intro c
  induction c with
  | skip => intro fr s x fr' s' hl h; simp [VE.X] at h; obtain ⟨_, _, rfl⟩ := h; exact .refl _ _
  | ops l =>
    intro fr s x fr' s' hl h; simp only [VE.X] at h; split at h
    · rename_i h1; simp at h; obtain ⟨_, _, rfl⟩ := h; exact .opsV ho l hl h1
    · simp at h
  | draw l =>
    intro fr s x fr' s' hl h; simp only [VE.X] at h; split at h
    · rename_i h1; simp at h; obtain ⟨_, _, rfl⟩ := h; exact .drawV ho l hl h1
    · simp at h
  | seq a b iha ihb =>
    intro fr s x fr' s' hl h; simp only [VE.X] at h; split at h
    · rename_i h1; have k1 := iha hl h1; exact k1.trans (ihb (Nat.le_trans hl k1.next) h)
    · exact iha hl h
  | cond c a b iha ihb =>
    intro fr s x fr' s' hl h; simp only [VE.X] at h; split at h
    · exact iha hl h
    · exact ihb hl h
    · simp at h
  | block id b ih =>
    intro fr s x fr' s' hl h; simp only [VE.X] at h; split at h
    · rename_i h1; split at h <;> (simp at h; obtain ⟨_, _, rfl⟩ := h; exact ih hl h1)
    · exact ih hl h
  | loop k b ih => intro fr s x fr' s' hl h; simp only [VE.X] at h; exact ho.loop hl h
  | rangeFunc f ps a b iha ihb =>
    intro fr s x fr' s' hl h
    simp only [VE.X] at h
    split at h
    · split at h
      · rename_i v s1 h1
        have k0 : VK lo s (s.alloc (.loop .ready none fr ps a b)) := .alloc hl _
        have k1 := ho.call (Nat.le_trans hl k0.next) h1
        split at h
        · rename_i st pend fr2 ps2 a2 b2 hg
          have k2 : ∀ o, VK lo s1 (s1.put s.next o) := fun o => .put o hl ⟨_, hg, rfl⟩
          split at h
          · simp at h
          · split at h <;> (simp at h; obtain ⟨_, _, rfl⟩ := h; exact (k0.trans k1).trans (k2 _))
        · simp at h
      · simp at h
    · simp at h
  | exit id => intro fr s x fr' s' hl h; simp [VE.X] at h; obtain ⟨_, _, rfl⟩ := h; exact .refl _ _
  | scope b ih => intro fr s x fr' s' hl h; simp only [VE.X] at h; exact ho.jump hl h
  | label l => intro fr s x fr' s' hl h; simp [VE.X] at h; obtain ⟨_, _, rfl⟩ := h; exact .refl _ _
  | goto l => intro fr s x fr' s' hl h; simp [VE.X] at h; obtain ⟨_, _, rfl⟩ := h; exact .refl _ _
  | ret => intro fr s x fr' s' hl h; simp [VE.X] at h; obtain ⟨_, _, rfl⟩ := h; exact .refl _ _

theorem VKOrc.orc (T : Tr VFn) : ∀ n, VKOrc (orc T n) := by
  intro n
  induction n with
  | zero => exact ⟨fun _ h => by simp [VE.orc] at h, fun _ h => by simp [VE.orc] at h, fun _ h => by simp [VE.orc] at h, fun _ h => by simp [VE.orc] at h⟩
  | succ n ih =>
    refine ⟨?_, ?_, ?_, ?_⟩
    · intro lo k args s v s' hl h
      simp only [VE.orc] at h
      split at h
      · split at h
        · split at h
          · rename_i h1; rw [Option.map_eq_some_iff] at h; obtain ⟨vs, _, h2⟩ := h; injection h2 with _ h2; subst h2; exact .X ih _ hl h1
          · rename_i h1; rw [Option.map_eq_some_iff] at h; obtain ⟨vs, _, h2⟩ := h; injection h2 with _ h2; subst h2; exact .X ih _ hl h1
          · simp at h
        · simp at h
      · simp at h
    · intro lo kp b fr s x fr' s' hl h
      simp only [VE.orc] at h
      split at h
      · rename_i h1; have k1 := VK.X ih _ hl h1; exact k1.trans (ih.loop (Nat.le_trans hl k1.next) h)
      · exact .X ih _ hl h
    · intro lo b c fr s x fr' s' hl h
      simp only [VE.orc] at h
      split at h
      · rename_i h1
        have k1 := VK.X ih _ hl h1
        split at h
        · exact k1.trans (ih.jump (Nat.le_trans hl k1.next) h)
        · simp at h; obtain ⟨_, _, rfl⟩ := h; exact k1
      · exact .X ih _ hl h
    · intro lo id args s v s' hl h
      simp only [VE.orc] at h
      split at h
      · simp at h
      · rename_i hlo
        split at h
        · split at h
          · split at h
            · rename_i h1
              have k1 := VK.X ih _ hl h1
              split at h
              · rename_i hg
                split at h
                · rename_i h2
                  have k2 := fun o => VK.put o (Nat.le_of_not_lt hlo) ⟨_, hg, rfl⟩
                  have k3 := VK.X ih _ (Nat.le_trans hl (k1.trans (k2 _)).next) h2
                  split at h
                  · rename_i hg2
                    split at h <;> (simp at h; obtain ⟨_, rfl⟩ := h; exact ((k1.trans (k2 _)).trans k3).trans (.put _ (by omega) ⟨_, hg2, rfl⟩))
                  · simp at h
                · simp at h
              · simp at h
            · simp at h
          · simp at h
        · simp at h

end VE

namespace VE
open Go

theorem ORel.mono {E : Env} {ρ ρ' : Rho} {w w' : World} {o : VO} {b sh : Nat} (h1 : ∀ id x, ρ id = some x → ρ' id = some x) (h2 : ∀ b, csz w b ≤ csz w' b)
    (hb : ∀ o', w.heap[b]? = some o' → w'.heap[b]? = some o') (h : ORel E ρ w o b sh) : ORel E ρ' w' o b sh := by
  cases o with
  | cells cs =>
    obtain ⟨c, t, hc, hl, hg⟩ := h
    exact ⟨c, t, hb _ hc, hl, fun i v hv => let ⟨v', a, r⟩ := hg i v hv; ⟨v', a, r.mono h1 h2⟩⟩
  | ro cs =>
    obtain ⟨c, t, f, hc, hl, hg⟩ := h
    exact ⟨c, t, f, hb _ hc, hl, fun i v hv => let ⟨v', a, r⟩ := hg i v hv; ⟨v', a, r.mono h1 h2⟩⟩
  | dead => trivial
  | map es =>
    obtain ⟨arr, clock, hc, hk, hv⟩ := h
    exact ⟨arr, clock, hb _ hc, hk.mono h1 h2, hv.mono h1 h2⟩
  | iter s pos => exact ⟨h.1, hb _ h.2⟩
  | loop st pend fr ps x y =>
    obtain ⟨L, hL, a, b', c, d, f, nt, g⟩ := h
    exact ⟨L, hb _ hL, a, b', c, d, f.mono h1 h2, nt, g⟩

theorem csz_of {w : World} {b : Nat} {c : Array Value} {t : TypeId} {f : Nat × Nat} (h : w.heap[b]? = some (.cells c t f)) : csz w b = c.size := by simp [csz, h]

theorem csz_same {w w' : World} {b : Nat} (h : w'.heap[b]? = w.heap[b]?) : csz w' b = csz w b := by simp [csz, h]

theorem WR.block {E : Env} {ρ : Rho} {s : St} {w : World} (hw : WR E ρ s w) {id b sh : Nat} {cs : List V} (hρ : ρ id = some (b, sh)) (hc : s.heap.get id = some (.cells cs)) :
    ∃ c t, w.heap[b]? = some (.cells c t (0, 0)) ∧ sh + cs.length ≤ c.size ∧ ∀ (i : Nat) (v : V), cs[i]? = some v → ∃ v', c[sh + i]? = some v' ∧ VRel ρ w v v' := hw.obj _ _ _ _ hρ hc

theorem cell_at {w : World} {b k : Nat} {c : Array Value} {t : TypeId} {f : Nat × Nat} (h : w.heap[b]? = some (.cells c t f)) : w.cell? ⟨b, k, none⟩ = c[k]? := by
  simp [World.cell?, h]

theorem frozen_at {w : World} {b k : Nat} {c : Array Value} {t : TypeId} (h : w.heap[b]? = some (.cells c t (0, 0))) : w.frozen? ⟨b, k, none⟩ = false := by
  simp [World.frozen?, h]

theorem add_none (b o n : Nat) : (⟨b, o, none⟩ : Addr).add n = ⟨b, o + n, none⟩ := by
  unfold Addr.add; split
  · rename_i h; simp [h]
  · rfl

/-- Cells that are read. -/
theorem rd_rel {E : Env} {ρ : Rho} {s : St} {w : World} (hw : WR E ρ s w) {id off n b sh : Nat} {vs : List V} (hρ : ρ id = some (b, sh)) (h : s.rd id off n = some vs) :
    ∃ l : List Value, l.length = n ∧ VRelL ρ w vs l ∧ ∀ (j : Nat) (v : Value), l[j]? = some v → w.cell? ⟨b, sh + off + j, none⟩ = some v := by
  obtain ⟨c, t, f, hb, hs, hlen, hg⟩ : ∃ c t f, w.heap[b]? = some (.cells c t f) ∧ sh + off + n ≤ c.size ∧ vs.length = n ∧ ∀ i v, vs[i]? = some v → ∃ v', c[sh + (off + i)]? = some v' ∧ VRel ρ w v v' := by
    rcases rd_some h with ⟨cs, hc, hle, rfl⟩ | ⟨cs, hc, hle, hvs⟩
    · obtain ⟨c, t, hb, hs, hg⟩ := hw.block hρ hc
      refine ⟨c, t, _, hb, by omega, by simp; omega, ?_⟩
      intro i v hv
      have hi : i < n := by
        rcases Nat.lt_or_ge i n with h0 | h0
        · exact h0
        · rw [List.getElem?_eq_none (by simp; omega)] at hv; simp at hv
      rw [List.getElem?_take_of_lt hi, List.getElem?_drop] at hv
      exact hg _ _ hv
    · obtain ⟨c, t, f, hb, hs, hg⟩ := hw.obj _ _ _ _ hρ hc
      have hm := allS_get hvs
      have hl : vs.length = n := by have := congrArg List.length hm; simp at this; omega
      refine ⟨c, t, f, hb, by omega, hl, ?_⟩
      intro i v hv
      have hi : i < n := by
        rcases Nat.lt_or_ge i n with h0 | h0
        · exact h0
        · rw [List.getElem?_eq_none (by omega)] at hv; simp at hv
      have hv2 : ((cs.drop off).take n)[i]? = some (some v) := by rw [hm]; simp [hv]
      rw [List.getElem?_take_of_lt hi, List.getElem?_drop] at hv2
      exact hg _ _ hv2
  refine ⟨(c.toList.drop (sh + off)).take n, ?_, ?_, ?_⟩
  · simp; omega
  · refine VRelL.of_get (by simp; omega) ?_
    intro i v hv
    have hi : i < n := by
      rcases Nat.lt_or_ge i n with h0 | h0
      · exact h0
      · rw [List.getElem?_eq_none (by omega)] at hv; simp at hv
    obtain ⟨v', h1, h2⟩ := hg _ _ hv
    refine ⟨v', ?_, h2⟩
    rw [List.getElem?_take_of_lt hi, List.getElem?_drop, show sh + off + i = sh + (off + i) by omega]
    simpa using h1
  · intro j v hv
    have hj : j < n := by
      rcases Nat.lt_or_ge j n with h0 | h0
      · exact h0
      · rw [List.getElem?_eq_none (by simp; omega)] at hv; simp at hv
    rw [List.getElem?_take_of_lt hj, List.getElem?_drop] at hv
    rw [cell_at hb]
    simpa using hv

theorem rd_block {E : Env} {ρ : Rho} {s : St} {w : World} (hw : WR E ρ s w) {id off n b sh : Nat} {vs : List V} (hρ : ρ id = some (b, sh)) (h : s.rd id off n = some vs) :
    ∃ c t f, w.heap[b]? = some (.cells c t f) ∧ sh + off + n ≤ c.size := by
  rcases rd_some h with ⟨cs, hc, hle, _⟩ | ⟨cs, hc, hle, _⟩
  · obtain ⟨c, t, hb, hs, _⟩ := hw.obj _ _ _ _ hρ hc; exact ⟨c, t, _, hb, by omega⟩
  · obtain ⟨c, t, f, hb, hs, _⟩ := hw.obj _ _ _ _ hρ hc; exact ⟨c, t, f, hb, by omega⟩

theorem load_run {E : Env} {ρ : Rho} {s : St} {w : World} (hw : WR E ρ s w) {id off n b sh : Nat} {vs : List V} (hρ : ρ id = some (b, sh)) (h : s.rd id off n = some vs) :
    ∃ l : List Value, l.length = n ∧ VRelL ρ w vs l ∧ (loadCells ⟨b, sh + off, none⟩ n).run E.P w = .ok l.toArray w := by
  obtain ⟨l, hl, hr, hc⟩ := rd_rel hw hρ h
  refine ⟨l, hl, hr, ?_⟩
  rw [← hl]
  exact run_loadCells_list w _ l (fun j v hv => by rw [add_none]; exact hc j v hv)

/-! ## Turning one block -/

theorem Stp.upd {E : Env} {lo : Nat} {ρ : Rho} {s : St} {w w' : World} {id b sh : Nat} {o : VO} (hρ : ρ id = some (b, sh)) (hl : lo ≤ id) (ha : alive s id) (hw : WR E ρ s w)
    (hh : ∀ k, k ≠ b → w'.heap[k]? = w.heap[k]?) (hs : w'.heap.size = w.heap.size) (hc : csz w' b = csz w b) (ho : ORel E ρ w' o b sh)
    (hL : ∀ L : Loop, w.heap[b]? = some (.loop L) → ∃ L' : Loop, w'.heap[b]? = some (.loop L') ∧ L'.defers = L.defers) (hoo : w'.os = w.os ∧ w'.output = w.output) : Stp E lo ρ s w ρ (s.put id o) w' := by
  have hcs : ∀ k, csz w k ≤ csz w' k := fun k => by
    by_cases e : k = b
    · subst e; omega
    · exact Nat.le_of_eq (csz_same (hh k e)).symm
  refine ⟨fun _ _ h => h, fun id x h h' => by rw [h] at h'; simp at h', fun id b sh h h' => by rw [h] at h'; simp at h', hcs, by omega, ?_, fun k L h => if e : k = b then by subst e; exact hL L h else ⟨L, by rw [hh k e]; exact h, rfl⟩, ?_, hoo⟩
  · intro k x hk hp
    by_cases e : k = b
    · subst e; have := hp id sh hρ ha; omega
    · rw [hh k e]; exact hk
  · refine ⟨?_, fun k b' sh' h => by rw [hs]; exact hw.lt k b' sh' h, ?_, ?_⟩
    · intro k b' sh' x hk hx
      rw [get_put] at hx
      split at hx
      · rename_i e; subst e
        rw [hρ] at hk; injection hk with hk; injection hk with h1 h2; subst h1; subst h2
        injection hx with hx; subst hx; exact ho
      · rename_i hne
        by_cases e : b' = b
        · subst e
          cases hd : isDead x with
          | true => cases x <;> simp [isDead] at hd; trivial
          | false => exact absurd (hw.inj k id b' sh' sh hk hρ ⟨x, hx, hd⟩ ha) hne
        · exact (hw.obj k b' sh' x hk hx).mono (fun _ _ h => h) hcs fun o' h => by rw [hh b' e]; exact h
    · intro k k' b' s1 s2 h1 h2 a1 a2
      have conv : ∀ j, alive (s.put id o) j → alive s j := by
        rintro j ⟨x, hx, hd⟩
        rw [get_put] at hx
        split at hx
        · rename_i e; subst e; exact ha
        · exact ⟨x, hx, hd⟩
      exact hw.inj k k' b' s1 s2 h1 h2 (conv _ a1) (conv _ a2)
    · exact (VK.put (lo := lo) o hl ha).fresh hw.fresh

/-- A block is given up. -/
theorem Stp.kill {E : Env} {lo : Nat} {ρ : Rho} {s : St} {w : World} {id b sh : Nat} (hρ : ρ id = some (b, sh)) (hl : lo ≤ id) (ha : alive s id) (hw : WR E ρ s w) :
    Stp E lo ρ s w ρ (s.put id .dead) w :=
  .upd hρ hl ha hw (fun _ _ => rfl) rfl rfl trivial (fun L h => ⟨L, h, rfl⟩) ⟨rfl, rfl⟩

def Rho.put (ρ : Rho) (id : Nat) (x : Nat × Nat) : Rho := fun k => if k = id then some x else ρ k

theorem Rho.put_ext {ρ : Rho} {id : Nat} {x : Nat × Nat} (h : ρ id = none) : ∀ k y, ρ k = some y → ρ.put id x k = some y := by
  intro k y hk
  unfold Rho.put
  split
  · rename_i e; subst e; rw [h] at hk; simp at hk
  · exact hk

theorem Rho.put_same (ρ : Rho) (id : Nat) (x : Nat × Nat) : ρ.put id x id = some x := by simp [Rho.put]

theorem Rho.put_some {ρ : Rho} {id k : Nat} {x y : Nat × Nat} (h : ρ.put id x k = some y) : (k = id ∧ x = y) ∨ (k ≠ id ∧ ρ k = some y) := by
  unfold Rho.put at h
  split at h
  · injection h with h; exact .inl ⟨‹_›, h⟩
  · exact .inr ⟨‹_›, h⟩

/-- A new block. -/
theorem Stp.make {E : Env} {lo : Nat} {ρ : Rho} {s : St} {w w' : World} {o : VO} {o' : Obj} (hu : ρ s.next = none) (hl : lo ≤ s.next) (hw : WR E ρ s w) (hh : w'.heap = w.heap.push o')
    (ho : ORel E (ρ.put s.next (w.heap.size, 0)) w' o w.heap.size 0) (hoo : w'.os = w.os ∧ w'.output = w.output) : Stp E lo ρ s w (ρ.put s.next (w.heap.size, 0)) (s.alloc o) w' := by
  have hold : ∀ (k : Nat) (x : Obj), w.heap[k]? = some x → w'.heap[k]? = some x := by
    intro k x hk
    rw [hh, Array.getElem?_push]
    have : k < w.heap.size := by
      rcases Nat.lt_or_ge k w.heap.size with h0 | h0
      · exact h0
      · rw [Array.getElem?_eq_none h0] at hk; simp at hk
    rw [if_neg (by omega)]; exact hk
  have hcs : ∀ k, csz w k ≤ csz w' k := fun k => by
    cases hk : w.heap[k]? with
    | none => simp [csz, hk]
    | some x => exact Nat.le_of_eq (csz_same (by rw [hk]; exact hold k x hk)).symm
  refine ⟨Rho.put_ext hu, ?_, ?_, hcs, by rw [hh]; simp, fun k x hk _ => hold k x hk, fun k L h => ⟨L, hold k _ h, rfl⟩, ?_, hoo⟩
  · intro id x h h'
    rcases Rho.put_some h' with ⟨rfl, _⟩ | ⟨_, h2⟩
    · exact ⟨Nat.le_refl _, by simp [next_alloc]⟩
    · rw [h] at h2; simp at h2
  · intro id b sh h h'
    rcases Rho.put_some h' with ⟨rfl, e⟩ | ⟨_, h2⟩
    · injection e with e1 e2; subst e1; exact .inl (Nat.le_refl _)
    · rw [h] at h2; simp at h2
  · refine ⟨?_, ?_, ?_, (VK.alloc (lo := lo) hl o).fresh hw.fresh⟩
    · intro k b sh x hk hx
      rw [get_alloc] at hx
      split at hx
      · rename_i e; subst e
        rw [Rho.put_same] at hk; injection hk with hk; injection hk with h1 h2; subst h1; subst h2
        injection hx with hx; subst hx; exact ho
      · rename_i hne
        rcases Rho.put_some hk with ⟨e, _⟩ | ⟨_, h2⟩
        · exact absurd e hne
        · exact (hw.obj k b sh x h2 hx).mono (Rho.put_ext hu) hcs fun o' h => hold b o' h
    · intro k b sh hk
      rw [hh]; simp only [Array.size_push]
      rcases Rho.put_some hk with ⟨_, e⟩ | ⟨_, h2⟩
      · injection e with e1 e2; omega
      · have := hw.lt k b sh h2; omega
    · intro k k' b s1 s2 h1 h2 a1 a2
      have conv : ∀ j, j ≠ s.next → alive (s.alloc o) j → alive s j := by
        rintro j hj ⟨x, hx, hd⟩
        rw [get_alloc, if_neg hj] at hx
        exact ⟨x, hx, hd⟩
      rcases Rho.put_some h1 with ⟨e1, x1⟩ | ⟨n1, r1⟩ <;> rcases Rho.put_some h2 with ⟨e2, x2⟩ | ⟨n2, r2⟩
      · rw [e1, e2]
      · injection x1 with x1 _; have := hw.lt _ _ _ r2; omega
      · injection x2 with x2 _; have := hw.lt _ _ _ r1; omega
      · exact hw.inj k k' b s1 s2 r1 r2 (conv k n1 a1) (conv k' n2 a2)

/-- A block that goes on under a new name. -/
theorem Stp.alias {E : Env} {lo : Nat} {ρ : Rho} {s : St} {w w' : World} {id b sh sh' : Nat} {o : VO} (hρ : ρ id = some (b, sh)) (hl : lo ≤ id) (ha : alive s id) (hu : ρ s.next = none)
    (hln : lo ≤ s.next) (hw : WR E ρ s w) (hh : ∀ k, k ≠ b → w'.heap[k]? = w.heap[k]?) (hs : w'.heap.size = w.heap.size) (hc : csz w' b = csz w b)
    (ho : ORel E (ρ.put s.next (b, sh')) w' o b sh')
    (hL : ∀ L : Loop, w.heap[b]? = some (.loop L) → ∃ L' : Loop, w'.heap[b]? = some (.loop L') ∧ L'.defers = L.defers) (hoo : w'.os = w.os ∧ w'.output = w.output) : Stp E lo ρ s w (ρ.put s.next (b, sh')) ((s.put id .dead).alloc o) w' := by
  have hcs : ∀ k, csz w k ≤ csz w' k := fun k => by
    by_cases e : k = b
    · subst e; omega
    · exact Nat.le_of_eq (csz_same (hh k e)).symm
  have hid : id < s.next := by
    rcases Nat.lt_or_ge id s.next with h0 | h0
    · exact h0
    · obtain ⟨x, hx, _⟩ := ha; rw [hw.fresh id h0] at hx; simp at hx
  have hget : ∀ k, ((s.put id .dead).alloc o).heap.get k = if k = s.next then some o else if k = id then some .dead else s.heap.get k := by
    intro k; rw [get_alloc, next_put, get_put]
  refine ⟨Rho.put_ext hu, ?_, ?_, hcs, by omega, ?_, fun k L h => if e : k = b then by subst e; exact hL L h else ⟨L, by rw [hh k e]; exact h, rfl⟩, ?_, hoo⟩
  · intro k x h h'
    rcases Rho.put_some h' with ⟨rfl, _⟩ | ⟨_, h2⟩
    · exact ⟨Nat.le_refl _, by simp [next_alloc, next_put]⟩
    · rw [h] at h2; simp at h2
  · intro k b' sh2 h h'
    rcases Rho.put_some h' with ⟨rfl, e⟩ | ⟨_, h2⟩
    · injection e with e1 e2; subst e1; exact .inr ⟨id, sh, hρ, ha, hl⟩
    · rw [h] at h2; simp at h2
  · intro k x hk hp
    by_cases e : k = b
    · subst e; have := hp id sh hρ ha; omega
    · rw [hh k e]; exact hk
  · refine ⟨?_, ?_, ?_, ?_⟩
    · intro k b' sh2 x hk hx
      rw [hget] at hx
      split at hx
      · rename_i e; subst e
        rw [Rho.put_same] at hk; injection hk with hk; injection hk with h1 h2; subst h1; subst h2
        injection hx with hx; subst hx; exact ho
      · rename_i hne
        rcases Rho.put_some hk with ⟨e, _⟩ | ⟨_, h2⟩
        · exact absurd e hne
        · split at hx
          · injection hx with hx; subst hx; trivial
          · rename_i hne2
            by_cases e : b' = b
            · subst e
              cases hd : isDead x with
              | true => cases x <;> simp [isDead] at hd; trivial
              | false => exact absurd (hw.inj k id b' sh2 sh h2 hρ ⟨x, hx, hd⟩ ha) hne2
            · exact (hw.obj k b' sh2 x h2 hx).mono (Rho.put_ext hu) hcs fun o' h => by rw [hh b' e]; exact h
    · intro k b' sh2 hk
      rw [hs]
      rcases Rho.put_some hk with ⟨_, e⟩ | ⟨_, h2⟩
      · injection e with e1 e2; subst e1; exact hw.lt _ _ _ hρ
      · exact hw.lt k b' sh2 h2
    · intro k k' b' s1 s2 h1 h2 a1 a2
      have conv : ∀ j, j ≠ s.next → alive ((s.put id .dead).alloc o) j → j ≠ id ∧ alive s j := by
        rintro j hj ⟨x, hx, hd⟩
        rw [hget, if_neg hj] at hx
        split at hx
        · injection hx with hx; subst hx; simp [isDead] at hd
        · exact ⟨‹_›, x, hx, hd⟩
      rcases Rho.put_some h1 with ⟨e1, x1⟩ | ⟨n1, r1⟩ <;> rcases Rho.put_some h2 with ⟨e2, x2⟩ | ⟨n2, r2⟩
      · rw [e1, e2]
      · injection x1 with x1 _; subst x1
        obtain ⟨q1, q2⟩ := conv k' n2 a2
        exact absurd (hw.inj k' id _ s2 sh r2 hρ q2 ha) q1
      · injection x2 with x2 _; subst x2
        obtain ⟨q1, q2⟩ := conv k n1 a1
        exact absurd (hw.inj k id _ s1 sh r1 hρ q2 ha) q1
      · exact hw.inj k k' b' s1 s2 r1 r2 (conv k n1 a1).2 (conv k' n2 a2).2
    · intro k hk
      rw [next_alloc, next_put] at hk
      rw [hget, if_neg (by omega), if_neg (by omega)]
      exact hw.fresh k (by omega)

/-! ## Cells that are written -/

def setCells (c : Array Value) (k : Nat) : List Value → Array Value
  | [] => c
  | v :: r => setCells (c.setIfInBounds k v) (k + 1) r

theorem size_setCells : ∀ (l : List Value) (c : Array Value) (k : Nat), (setCells c k l).size = c.size
  | [], _, _ => rfl
  | v :: r, c, k => by rw [setCells, size_setCells r]; simp

theorem get_setCells : ∀ (l : List Value) (c : Array Value) (k j : Nat), k + l.length ≤ c.size →
    (setCells c k l)[j]? = if k ≤ j ∧ j < k + l.length then l[j - k]? else c[j]?
  | [], c, k, j, _ => by simp only [setCells, List.length_nil]; rw [if_neg (by omega)]
  | v :: r, c, k, j, h => by
    simp only [List.length_cons] at h ⊢
    rw [setCells, get_setCells r _ _ _ (by simp; omega)]
    by_cases e : j = k
    · subst e
      rw [if_neg (by omega), if_pos (by omega)]
      simp [Array.getElem?_setIfInBounds]; omega
    · by_cases e2 : k + 1 ≤ j ∧ j < k + 1 + r.length
      · rw [if_pos e2, if_pos (by omega)]
        obtain ⟨m, rfl⟩ : ∃ m, j = k + 1 + m := ⟨j - (k + 1), by omega⟩
        rw [show k + 1 + m - (k + 1) = m by omega, show k + 1 + m - k = m + 1 by omega]; rfl
      · rw [if_neg e2, if_neg (by omega), Array.getElem?_setIfInBounds_ne (by omega)]

theorem ok1_rel {ρ : Rho} {w : World} {v : V} {v' : Value} (h : VRel ρ w v v') (hv : v.ok1 = true) : v'.oneCell' = true := by
  cases h <;> first | rfl | (simp [V.ok1] at hv)

theorem storeCells_run (P : Program) {b : Nat} {t : TypeId} : ∀ (l : List Value) (w : World) (c : Array Value) (k i : Nat), w.heap[b]? = some (.cells c t (0, 0)) → k + i + l.length ≤ c.size →
    (∀ v ∈ l, v.oneCell' = true) → ∃ w', (storeCells ⟨b, k, none⟩ l i).run P w = .ok () w' ∧ w'.heap[b]? = some (.cells (setCells c (k + i) l) t (0, 0)) ∧
      (∀ j, j ≠ b → w'.heap[j]? = w.heap[j]?) ∧ w'.heap.size = w.heap.size ∧ w'.os = w.os ∧ w'.output = w.output
  | [], w, c, k, i, hb, _, _ => ⟨w, rfl, hb, fun _ _ => rfl, rfl, rfl, rfl⟩
  | v :: r, w, c, k, i, hb, hle, hv => by
    simp only [List.length_cons] at hle
    have hcell : w.cell? ⟨b, k + i, none⟩ = some c[k + i] := by rw [cell_at hb]; simp [Array.getElem?_eq_getElem (show k + i < c.size by omega)]
    have hstore : (store ((⟨b, k, none⟩ : Addr).add i) v).run P w = .ok () (w.setCell ⟨b, k + i, none⟩ v) := by
      rw [run_store P w _ v _ (hv v (by simp)), add_none]
      simp [hcell, frozen_at hb]
    have hlt : b < w.heap.size := by
      rcases Nat.lt_or_ge b w.heap.size with h0 | h0
      · exact h0
      · rw [Array.getElem?_eq_none h0] at hb; simp at hb
    have hb' : (w.setCell ⟨b, k + i, none⟩ v).heap[b]? = some (.cells (c.setIfInBounds (k + i) v) t (0, 0)) := by
      simp only [World.setCell, Array.getElem?_modify, if_true, hb, Option.map_some, Option.isSome_none, Bool.false_eq_true, if_false]
    obtain ⟨w', h1, h2, h3, h4, h5⟩ := storeCells_run P r (w.setCell ⟨b, k + i, none⟩ v) (c.setIfInBounds (k + i) v) k (i + 1) hb' (by simp; omega) (fun u hu => hv u (by simp [hu]))
    refine ⟨w', ?_, ?_, ?_, ?_, h5⟩
    · simp only [storeCells, Sem.run_bind, hstore, Result.andThen_ok, h1]
    · rw [h2]; rfl
    · intro j hj
      rw [h3 j hj]
      simp only [World.setCell, Array.getElem?_modify, if_neg (Ne.symm hj)]
    · rw [h4]; simp [World.setCell]

theorem length_splice {cs vs : List V} {off : Nat} (h : off + vs.length ≤ cs.length) : (splice cs off vs).length = cs.length := by
  simp [splice]; omega

theorem get_splice {cs vs : List V} {off : Nat} (h : off + vs.length ≤ cs.length) (j : Nat) :
    (splice cs off vs)[j]? = if off ≤ j ∧ j < off + vs.length then vs[j - off]? else cs[j]? := by
  unfold splice
  rw [List.append_assoc]
  by_cases h1 : j < off
  · rw [List.getElem?_append_left (by simp; omega), List.getElem?_take_of_lt h1, if_neg (by omega)]
  · rw [List.getElem?_append_right (by simp; omega)]
    simp only [List.length_take, Nat.min_eq_left (show off ≤ cs.length by omega)]
    by_cases h2 : j < off + vs.length
    · rw [List.getElem?_append_left (by omega), if_pos (by omega)]
    · rw [List.getElem?_append_right (by omega), List.getElem?_drop, if_neg (by omega)]
      congr 1; omega

/-- Cells that are written, in a live block. -/
theorem wr_run {E : Env} {ρ : Rho} {s s' : St} {w : World} {lo id off b sh : Nat} {vs : List V} {l : List Value} (hw : WR E ρ s w) (hρ : ρ id = some (b, sh)) (h : s.wr lo id off vs = some s')
    (hl : VRelL ρ w vs l) : ∃ w', (storeCells ⟨b, sh + off, none⟩ l).run E.P w = .ok () w' ∧ Stp E lo ρ s w ρ s' w' := by
  obtain ⟨cs, hlo, hc, ⟨hle, hok⟩, rfl⟩ := wr_some h
  obtain ⟨c, t, hb, hs, hg⟩ := hw.block hρ hc
  have hlen := hl.length
  have hone : ∀ v ∈ l, v.oneCell' = true := by
    intro v hv
    obtain ⟨i, hi, rfl⟩ := List.mem_iff_getElem.1 hv
    have hi' : i < vs.length := by omega
    obtain ⟨v', h1, h2⟩ := hl.get (List.getElem?_eq_getElem hi')
    rw [List.getElem?_eq_getElem hi] at h1; injection h1 with h1; subst h1
    exact ok1_rel h2 (List.all_eq_true.1 hok _ (List.getElem_mem hi'))
  obtain ⟨w', h1, h2, h3, h4, h5⟩ := storeCells_run E.P l w c (sh + off) 0 hb (by omega) hone
  have hcz : csz w' b = csz w b := by rw [csz_of h2, csz_of hb, size_setCells]
  have hcs : ∀ k, csz w k ≤ csz w' k := fun k => by
    by_cases e : k = b
    · subst e; omega
    · exact Nat.le_of_eq (csz_same (h3 k e)).symm
  refine ⟨w', h1, Stp.upd hρ hlo ⟨_, hc, rfl⟩ hw h3 h4 hcz ⟨_, t, h2, by rw [size_setCells, length_splice hle]; exact hs, ?_⟩ (fun L h => by rw [hb] at h; simp at h) h5⟩
  intro i v hv
  rw [get_splice hle] at hv
  rw [Nat.add_zero, get_setCells _ _ _ _ (by omega)]
  by_cases hin : off ≤ i ∧ i < off + vs.length
  · rw [if_pos hin] at hv
    rw [if_pos (by omega)]
    obtain ⟨v', a, r⟩ := hl.get hv
    refine ⟨v', ?_, r.mono (fun _ _ h => h) hcs⟩
    rw [show sh + i - (sh + off) = i - off by omega]; exact a
  · rw [if_neg hin] at hv
    rw [if_neg (by omega)]
    obtain ⟨v', a, r⟩ := hg i v hv
    exact ⟨v', a, r.mono (fun _ _ h => h) hcs⟩

/-- A new row of cells. -/
theorem make_rel {E : Env} {lo : Nat} {ρ : Rho} {s : St} {w : World} {vs : List V} {c : Array Value} (t : TypeId) (hu : ρ s.next = none) (hl : lo ≤ s.next) (hw : WR E ρ s w) (hle : vs.length ≤ c.size)
    (hg : ∀ (i : Nat) (v : V), vs[i]? = some v → ∃ v', c[i]? = some v' ∧ VRel ρ w v v') :
    Stp E lo ρ s w (ρ.put s.next (w.heap.size, 0)) (s.alloc (.cells vs)) { w with heap := w.heap.push (.cells c t) } := by
  have hcs : ∀ k, csz w k ≤ csz { w with heap := w.heap.push (.cells c t) } k := fun k => by
    unfold csz
    simp only [Array.getElem?_push]
    split
    · rename_i e
      by_cases h : k = w.heap.size
      · subst h; simp at e
      · rw [if_neg h, e]; exact Nat.le_refl _
    · exact Nat.zero_le _
  refine .make hu hl hw rfl ⟨c, t, by simp, by omega, ?_⟩ ⟨rfl, rfl⟩
  intro i v hv
  obtain ⟨v', a, r⟩ := hg i v hv
  exact ⟨v', by rw [Nat.zero_add]; exact a, r.mono (Rho.put_ext hu) hcs⟩

end VE

