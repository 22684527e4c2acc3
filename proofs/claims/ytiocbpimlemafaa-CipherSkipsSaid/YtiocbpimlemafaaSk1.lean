/- An evaluator for the translated program, proved against its model, and what functions of the program come to. Conditions: those that stand in each theorem. -/
import Derived.Calls
import Derived.KernelRfl
import Derived.Orders
import Derived.Scope
import Derived.Below
import Derived.Laws.Cells
import Derived.Laws.IdiomCopy
import Derived.WalkKit
import Derived.ChangeKeysEq
import Derived.Laws.Append

/- The local evaluator, part A: values, state and operations. A function's body is evaluated over local block numbers; part B onwards proves that the model's run agrees. -/
namespace Go.LE

/-- A natural number, known to the evaluator or not. -/
inductive NN where
  | lit (n : Nat)
  | sym (n : Nat)

/-- An integer, known to the evaluator or not. -/
inductive LN where
  | lit (n : Int)
  | sym (n : Int)

def NN.v : NN → Nat
  | .lit n => n
  | .sym n => n

def LN.v : LN → Int
  | .lit n => n
  | .sym n => n

/-- A function of a number: the number is looked at first, so that what comes of it is no thunk. -/
def NN.on {β : Type} (n : NN) (f : Nat → β) : β := match n with
  | .lit x => f x
  | .sym x => f x

def LN.on {β : Type} (n : LN) (f : Int → β) : β := match n with
  | .lit x => f x
  | .sym x => f x

theorem NN.on_v {β : Type} (n : NN) (f : Nat → β) : n.on f = f n.v := by cases n <;> rfl
theorem LN.on_v {β : Type} (n : LN) (f : Int → β) : n.on f = f n.v := by cases n <;> rfl

/-- A value with local block numbers. -/
inductive LVal where
  | int (k : IntKind) (n : LN)
  | bool (s : Bool) (b : Bool)
  | ptr (id : Nat) (off : NN)
  | nilp
  | slice (id : Nat) (off len : NN) (cap : Option NN)
  | cut (id : Nat) (off l len : NN)
  | nils
  | raw (v : Value)
  | func (fn : Fn) (first captured : List LVal)
  | agg (cs : List LVal)
  | tup (vs : List LVal)

instance : Inhabited LVal := ⟨.nilp⟩

/-- A decision tree: what an evaluation comes to. -/
inductive Tree (α : Type) where
  | fail (code : Nat)
  | done (a : α)
  | ite (c : Bool) (t e : Tree α)
  | need (p : Prop) (t : Tree α)

def Tree.bind {α β : Type} (x : Tree α) (f : α → Tree β) : Tree β :=
  match x with
  | .fail c => .fail c
  | .done a => f a
  | .ite c t e => .ite c (t.bind f) (e.bind f)
  | .need p t => .need p (t.bind f)

def Tree.sat {α : Type} (x : Tree α) (Q : α → Prop) : Prop :=
  match x with
  | .fail _ => False
  | .done a => Q a
  | .ite c t e => (c = true → t.sat Q) ∧ (c = false → e.sat Q)
  | .need p t => p ∧ t.sat Q

/-- A map from numbers, as a tree on the binary digits. -/
inductive Trie (α : Type) where
  | leaf
  | node (v : Option α) (l r : Trie α)

def Trie.get {α : Type} : Trie α → Nat → Option α
  | .leaf, _ => none
  | .node v l r, n => match n with
    | 0 => v
    | m + 1 => match Nat.beq (m % 2) 0 with
      | true => l.get (m / 2)
      | false => r.get (m / 2)

/-- The entry of number n becomes x; the first number bounds the depth. -/
def Trie.putF {α : Type} (x : Option α) : Nat → Nat → Trie α → Trie α
  | 0, _, t => t
  | d + 1, n, t => match t with
    | .leaf => match n with
      | 0 => .node x .leaf .leaf
      | m + 1 => match Nat.beq (m % 2) 0 with
        | true => .node none (putF x d (m / 2) .leaf) .leaf
        | false => .node none .leaf (putF x d (m / 2) .leaf)
    | .node v l r => match n with
      | 0 => .node x l r
      | m + 1 => match Nat.beq (m % 2) 0 with
        | true => .node v (putF x d (m / 2) l) r
        | false => .node v l (putF x d (m / 2) r)

def Trie.put {α : Type} (t : Trie α) (n : Nat) (x : α) : Trie α := t.putF (some x) (n + 1) n
def Trie.del {α : Type} (t : Trie α) (n : Nat) : Trie α := t.putF none (n + 1) n

def Trie.ofList {α : Type} : List (Nat × α) → Trie α
  | [] => .leaf
  | (n, x) :: l => (Trie.ofList l).put n x

/-- What the evaluator knows of a block's cells. -/
inductive Cont where
  | cells (l : List LVal)
  | ints (k : IntKind) (l : List Int)
  | win (off : NN) (l : List LVal)
  | seg (off : NN) (k : IntKind) (l : List Int)
  | arr (k : IntKind) (n : Nat) (f : Nat → Int)

/-- A block: may it be written; is it known whether it is nil, and is it; how many cells it has, if that is known; what they hold. -/
structure Blk where
  own : Bool
  nils : Bool
  nil : Bool
  size : Option NN
  cont : Cont

def Blk.new (l : List LVal) : Blk := ⟨true, false, false, some (.lit l.length), .cells l⟩

inductive TD where
  | int (k : IntKind)
  | bool
  | str
  | ptr (elem : TypeId)
  | slice (elem : TypeId)
  | arr (n : Nat) (elem : TypeId)
  | struct (fs : List (Nat × TypeId))
  | func

/-- A row of the table of types: its shape, how many cells, how many bytes, its zero cells. -/
structure TI where
  d : TD
  size : Nat
  bytes : Nat
  zero : List LVal

structure St where
  sl : Trie LVal
  nsl : Nat
  hp : Trie Blk
  nid : Nat

/-- What a called function does, told by its contract: the value, the blocks that it changes, how many new block numbers it takes. -/
structure OrcRes where
  val : LVal
  wr : List (Nat × Blk)
  cnt : Nat

structure Orc where
  acc : List LVal → List Nat
  run : List LVal → (Nat → Option Blk) → Nat → Tree OrcRes

inductive LX where
  | nrm
  | ex (id : Nat)
  | ret

structure Env where
  tt : Trie TI
  fns : Trie (Func × Bool)
  orc : Trie Orc
  lps : List (Nat × Code × (St → Tree (LX × St)))

/- Numbers. -/

def wrapK : IntKind → Int → Int
  | .u8, n => n % 256
  | .u16, n => n % 65536
  | .u32, n => n % 4294967296
  | .u64, n => n % 18446744073709551616
  | .i8, n => if 128 ≤ n % 256 then n % 256 - 256 else n % 256
  | .i16, n => if 32768 ≤ n % 65536 then n % 65536 - 65536 else n % 65536
  | .i32, n => if 2147483648 ≤ n % 4294967296 then n % 4294967296 - 4294967296 else n % 4294967296
  | .i64, n => if 9223372036854775808 ≤ n % 18446744073709551616 then n % 18446744073709551616 - 18446744073709551616 else n % 18446744073709551616

def iAnd (k : IntKind) (x y : Int) : Int := k.wrap ((BitVec.ofInt k.bits x &&& BitVec.ofInt k.bits y).toNat : Int)
def iOr (k : IntKind) (x y : Int) : Int := k.wrap ((BitVec.ofInt k.bits x ||| BitVec.ofInt k.bits y).toNat : Int)
def iXor (k : IntKind) (x y : Int) : Int := k.wrap ((BitVec.ofInt k.bits x ^^^ BitVec.ofInt k.bits y).toNat : Int)
def iAndNot (k : IntKind) (x y : Int) : Int := k.wrap ((BitVec.ofInt k.bits x &&& ~~~(BitVec.ofInt k.bits y)).toNat : Int)
def iShl (k : IntKind) (x : Int) (n : Nat) : Int := k.wrap (x * ((2 ^ (min n k.bits) : Nat) : Int))
def iShr (k : IntKind) (x : Int) (n : Nat) : Int := x.fdiv ((2 ^ (min n k.bits) : Nat) : Int)

/-- A binary operation on known or unknown numbers. -/
def LN.op (f g : Int → Int → Int) : LN → LN → LN
  | .lit a, .lit b => .lit (f a b)
  | .lit a, .sym b => .sym (g a b)
  | .sym a, .lit b => .sym (g a b)
  | .sym a, .sym b => .sym (g a b)

def NN.add : NN → NN → NN
  | .lit a, .lit b => .lit (a + b)
  | .lit a, .sym b => .sym (a + b)
  | .sym a, .lit b => .sym (a + b)
  | .sym a, .sym b => .sym (a + b)

def NN.sub : NN → NN → NN
  | .lit a, .lit b => .lit (a - b)
  | .lit a, .sym b => .sym (a - b)
  | .sym a, .lit b => .sym (a - b)
  | .sym a, .sym b => .sym (a - b)

def NN.mulc (c : Nat) : NN → NN
  | .lit a => .lit (a * c)
  | .sym a => .sym (a * c)

def NN.toLN : NN → LN
  | .lit a => .lit (Int.ofNat a)
  | .sym a => .sym (a : Int)

def LN.toNN : LN → NN
  | .lit a => .lit a.toNat
  | .sym a => .sym a.toNat

/-- Is a ≤ b? If both are known, it is asked at once; else it is left as a condition. -/
def leN {α : Type} (a b : NN) (t : Tree α) : Tree α :=
  match a, b with
  | .lit x, .lit y => match Nat.ble x y with
    | true => t
    | false => .fail 1
  | a, b => a.on fun a => b.on fun b => .need (a ≤ b) t

def eqN {α : Type} (a b : NN) (t : Tree α) : Tree α :=
  match a, b with
  | .lit x, .lit y => match Nat.beq x y with
    | true => t
    | false => .fail 2
  | a, b => a.on fun a => b.on fun b => .need (a = b) t

/-- Is a number not negative? -/
def nonneg {α : Type} (a : LN) (t : Tree α) : Tree α :=
  match a with
  | .lit (.ofNat _) => t
  | .lit (.negSucc _) => .fail 3
  | .sym x => .need (0 ≤ x) t

def bleI (a b : Int) : Bool := decide (a ≤ b)

def cmpN (f : Int → Int → Bool) : LN → LN → LVal
  | .lit a, .lit b => .bool false (f a b)
  | .lit a, .sym b => .bool true (f a b)
  | .sym a, .lit b => .bool true (f a b)
  | .sym a, .sym b => .bool true (f a b)

def LVal.isInts : List LVal → Option (List Int)
  | [] => some []
  | .int _ n :: l => match LVal.isInts l with
    | some r => some (n.v :: r)
    | none => none
  | _ => none

def allLit : List LVal → Bool
  | [] => true
  | .int _ (.lit _) :: l => allLit l
  | _ => false

def eqInts : List Int → List Int → Bool
  | [], [] => true
  | a :: l, b :: r => (a == b) && eqInts l r
  | _, _ => false

def ofVal : Value → LVal
  | .int k n => .int k (.lit n)
  | .bool b => .bool false b
  | .pointer none => .nilp
  | .slice none 0 0 => .nils
  | v => .raw v

def ofValA : Value → LVal
  | .agg cs => .agg (cs.toList.map ofVal)
  | v => ofVal v

def St.oval (st : St) : Operand → Option LVal
  | .tmp t => st.sl.get t
  | .const v => some (ofValA v)
  | .func f => some (.func (.func f) [] [])
  | .global _ => none

def LVal.isBool : LVal → Option (Bool × Bool)
  | .bool s b => some (s, b)
  | _ => none

def LVal.cells : LVal → List LVal
  | .agg cs => cs
  | v => [v]

def one : LVal → Bool
  | .agg _ => false
  | .tup _ => false
  | .raw (.agg _) => false
  | .raw (.tuple _) => false
  | _ => true

def allOne : List LVal → Bool
  | [] => true
  | v :: l => one v && allOne l

def symInt (k : IntKind) (n : Int) : LVal := .int k (.sym n)

/-- The first n numbers of a list from a place on, as values. -/
def intsFrom (k : IntKind) (l : List Int) : Nat → Nat → List LVal
  | _, 0 => []
  | o, n + 1 => .int k (.sym (l.getD o 0)) :: intsFrom k l (o + 1) n

def dropL {α : Type} : Nat → List α → List α
  | 0, l => l
  | n + 1, _ :: l => dropL n l
  | _ + 1, [] => []

def takeL {α : Type} : Nat → List α → Option (List α)
  | 0, _ => some []
  | n + 1, a :: l => match takeL n l with
    | some r => some (a :: r)
    | none => none
  | _ + 1, [] => none

def LVal.intsOf (k : IntKind) : List LVal → Option (List Int)
  | [] => some []
  | .int k' n :: l => match decide (k = k') with
    | true => match LVal.intsOf k l with
      | some r => n.on fun x => some (x :: r)
      | none => none
    | false => none
  | _ => none

/-- n numbers of an array from a place on, as values. -/
def arrFrom (k : IntKind) (f : Nat → Int) : Nat → Nat → List LVal
  | _, 0 => []
  | o, n + 1 => .int k (.sym (f o)) :: arrFrom k f (o + 1) n

def upd (f : Nat → Int) (i : Nat) (x : Int) : Nat → Int := fun j => if j = i then x else f j

def updL (f : Nat → Int) : Nat → List Int → Nat → Int
  | _, [] => f
  | o, x :: l => updL (upd f o x) (o + 1) l

def rangeF (f : Nat → Int) : Nat → Nat → List Int
  | _, 0 => []
  | o, n + 1 => f o :: rangeF f (o + 1) n

/-- n values in a row, from a place of a block on. -/
def readC (c : Cont) (off : NN) (n : Nat) : Tree (List LVal) :=
  match c, off with
  | .cells l, .lit o => match takeL n (dropL o l) with
    | some r => .done r
    | none => .fail 4
  | .ints k l, .lit o => .need (o + n ≤ l.length) (.done (intsFrom k l o n))
  | .ints k l, .sym o => match n with
    | 1 => .need (o < l.length) (.done [.int k (.sym (l.getD o 0))])
    | _ => .fail 5
  | .win wo l, off => match Nat.beq l.length n with
    | true => eqN off wo (.done l)
    | false => .fail 6
  | .seg wo k l, off => match n with
    | 1 => wo.on fun w => off.on fun o => .need (w ≤ o ∧ o - w < l.length) (.done [.int k (.sym (l.getD (o - w) 0))])
    | _ => .fail 5
  | .arr k m f, off => leN (off.add (.lit n)) (.lit m) (off.on fun o => .done (arrFrom k f o n))
  | _, _ => .fail 7

def writeL {α : Type} : Nat → List α → List α → Option (List α)
  | 0, [], l => some l
  | 0, v :: vs, _ :: l => match writeL 0 vs l with
    | some r => some (v :: r)
    | none => none
  | 0, _ :: _, [] => none
  | o + 1, vs, a :: l => match writeL o vs l with
    | some r => some (a :: r)
    | none => none
  | _ + 1, _, [] => none

/-- The cells from a place of a block on become these. -/
def writeC (c : Cont) (off : NN) (vs : List LVal) : Tree Cont :=
  match c, off with
  | .cells l, .lit o => match writeL o vs l with
    | some r => .done (.cells r)
    | none => .fail 8
  | .ints k l, off => match vs with
    | [.int k' n] => match decide (k = k') with
      | true => off.on fun o => n.on fun x => .need (o < l.length) (.done (.ints k (l.set o x)))
      | false => .fail 9
    | _ => .fail 10
  | .arr k m f, off => match vs with
    | [.int k' x] => match decide (k = k') with
      | true => leN (off.add (.lit 1)) (.lit m) (off.on fun o => x.on fun x => .done (.arr k m (upd f o x)))
      | false => .fail 9
    | vs => match LVal.intsOf k vs with
      | some r => leN (off.add (.lit r.length)) (.lit m) (off.on fun o => .done (.arr k m (updL f o r)))
      | none => .fail 10
  | _, _ => .fail 11

/-- A block that an operation reads or writes. -/
abbrev Acc := Nat

structure HWr where
  id : Nat
  blk : Option Blk

/-- What an operation does: its value, the blocks that it writes, what it looks at, how many new block numbers it takes. -/
structure Eff where
  val : LVal
  wr : List HWr
  acc : List Acc
  cnt : Nat

def eff0 (v : LVal) : Tree Eff := .done ⟨v, [], [], 0⟩

def noVal : LVal := .raw (.tuple #[])

/-- Integers: arithmetic and comparison. -/
def intOp (op : BinOp) (k : IntKind) (a b : LN) : Tree LVal :=
  match op with
  | .add => .done (.int k (a.op (fun x y => wrapK k (x + y)) (fun x y => k.wrap (x + y)) b))
  | .sub => .done (.int k (a.op (fun x y => wrapK k (x - y)) (fun x y => k.wrap (x - y)) b))
  | .mul => .done (.int k (a.op (fun x y => wrapK k (x * y)) (fun x y => k.wrap (x * y)) b))
  | .and => .done (.int k (a.op (iAnd k) (iAnd k) b))
  | .or => .done (.int k (a.op (iOr k) (iOr k) b))
  | .xor => .done (.int k (a.op (iXor k) (iXor k) b))
  | .andNot => .done (.int k (a.op (iAndNot k) (iAndNot k) b))
  | .quo => match b with
    | .lit y => match decide (y = 0) with
      | true => .fail 20
      | false => .done (.int k (a.op (fun x y => wrapK k (x.tdiv y)) (fun x y => k.wrap (x.tdiv y)) b))
    | .sym y => .need (y ≠ 0) (.done (.int k (a.op (fun x y => wrapK k (x.tdiv y)) (fun x y => k.wrap (x.tdiv y)) b)))
  | .rem => match b with
    | .lit y => match decide (y = 0) with
      | true => .fail 21
      | false => .done (.int k (a.op (fun x y => x.tmod y) (fun x y => x.tmod y) b))
    | .sym y => .need (y ≠ 0) (.done (.int k (a.op (fun x y => x.tmod y) (fun x y => x.tmod y) b)))
  | .eql => .done (cmpN (fun x y => x == y) a b)
  | .neq => .done (cmpN (fun x y => x != y) a b)
  | .lss => .done (cmpN (fun x y => decide (x < y)) a b)
  | .leq => .done (cmpN (fun x y => decide (x ≤ y)) a b)
  | .gtr => .done (cmpN (fun x y => decide (x > y)) a b)
  | .geq => .done (cmpN (fun x y => decide (x ≥ y)) a b)
  | .shl => .fail 22
  | .shr => .fail 23

def shiftOp (op : BinOp) (k : IntKind) (a b : LN) : Tree LVal :=
  match op with
  | .shl => nonneg b (.done (.int k (a.op (fun x y => iShl k x y.toNat) (fun x y => iShl k x y.toNat) b)))
  | .shr => nonneg b (.done (.int k (a.op (fun x y => iShr k x y.toNat) (fun x y => iShr k x y.toNat) b)))
  | _ => .fail 24

/-- '==' on what is no number. -/
def eqOp (E : Env) (st : St) (t : TypeId) (x y : LVal) : Tree (Bool × Bool) :=
  match E.tt.get t, x, y with
  | some ⟨.bool, _, _, _⟩, .bool s a, .bool s' b => .done (s || s', a == b)
  | some ⟨.ptr _, _, _, _⟩, .ptr .., .nilp => .done (false, false)
  | some ⟨.ptr _, _, _, _⟩, .nilp, .ptr .. => .done (false, false)
  | some ⟨.ptr _, _, _, _⟩, .nilp, .nilp => .done (false, true)
  | some ⟨.slice _, _, _, _⟩, .nils, .nils => .done (false, true)
  | some ⟨.slice _, _, _, _⟩, .slice id _ _ _, .nils => match st.hp.get id with
    | some b => .done (b.nils, b.nil)
    | none => .fail 25
  | some ⟨.arr n e, _, _, _⟩, .agg l, .agg r => match E.tt.get e with
      | some ⟨.int k, 1, _, _⟩ => match LVal.intsOf k l, LVal.intsOf k r, Nat.beq l.length n && Nat.beq r.length n with
        | some a, some b, true => .done (!(allLit l && allLit r), eqInts a b)
        | _, _, _ => .fail 26
      | _ => .fail 27
  | _, _, _ => .fail 29

def shiftAct (op : BinOp) : Bool :=
  match op with
  | .shl => true
  | .shr => true
  | _ => false

def binI (op : BinOp) (k : IntKind) (a : LN) (k' : IntKind) (b : LN) : Tree LVal :=
  match shiftAct op with
  | true => shiftOp op k a b
  | false => match decide (k = k') with
    | true => intOp op k a b
    | false => .fail 30

def binS (op : BinOp) (a b : ByteArray) : Tree LVal :=
  match op with
  | .add => .need (a.size + b.size ≤ 9223372036854775807) (.done (.raw (.string (a ++ b))))
  | .eql => .done (.bool true (a.toList == b.toList))
  | .neq => .done (.bool true (!(a.toList == b.toList)))
  | _ => .fail 31

def binO (E : Env) (st : St) (op : BinOp) (t : TypeId) (x y : LVal) : Tree LVal :=
  match op with
  | .eql => (eqOp E st t x y).bind fun r => .done (.bool r.1 r.2)
  | .neq => (eqOp E st t x y).bind fun r => .done (.bool r.1 (!r.2))
  | _ => .fail 32

def binV (E : Env) (st : St) (op : BinOp) (t : TypeId) (x y : LVal) : Tree LVal :=
  match x, y with
  | .int k a, .int k' b => binI op k a k' b
  | .raw (.string a), .raw (.string b) => binS op a b
  | x, y => binO E st op t x y

def unV (op : UnOp) (x : LVal) : Tree LVal :=
  match op, x with
  | .neg, .int k (.lit n) => .done (.int k (.lit (wrapK k (0 - n))))
  | .neg, .int k (.sym n) => .done (.int k (.sym (k.wrap (0 - n))))
  | .xor, .int k (.lit n) => .done (.int k (.lit (iXor k (if k.signed then -1 else k.max) n)))
  | .xor, .int k (.sym n) => .done (.int k (.sym (iXor k (if k.signed then -1 else k.max) n)))
  | .not, .bool s b => .done (.bool s (!b))
  | _, _ => .fail 33

/-- The parts of a struct or an array laid into its zero cells. -/
def fillL (place : Nat → Option (Nat × Nat)) (cells : List LVal) : List (Nat × LVal) → Tree (List LVal)
  | [] => .done cells
  | (i, v) :: rest => match place i with
    | none => .fail 34
    | some (off, size) => match Nat.beq v.cells.length size && allOne v.cells with
      | true => match writeL off v.cells cells with
        | some c => fillL place c rest
        | none => .fail 35
      | false => .fail 36

def nth {α : Type} : Nat → List α → Option α
  | 0, a :: _ => some a
  | n + 1, _ :: l => nth n l
  | _, [] => none

def Env.size (E : Env) (t : TypeId) : Option Nat := match E.tt.get t with
  | some i => some i.size
  | none => none

def TI.agg (i : TI) : Bool := match i.d with
  | .arr _ _ => true
  | .struct _ => true
  | _ => false

def fieldOf (E : Env) (fs : List (Nat × TypeId)) (i : Nat) : Option (Nat × Nat) :=
  match nth i fs with
  | some (o, t) => match E.size t with
    | some s => some (o, s)
    | none => none
  | none => none

def ovals (st : St) : List Operand → Option (List LVal)
  | [] => some []
  | x :: l => match st.oval x with
    | some v => match ovals st l with
      | some r => some (v :: r)
      | none => none
    | none => none

def pvals (st : St) : List (Nat × Operand) → Option (List (Nat × LVal))
  | [] => some []
  | (i, x) :: l => match st.oval x with
    | some v => match pvals st l with
      | some r => some ((i, v) :: r)
      | none => none
    | none => none

/-- A list repeated. -/
def repL : Nat → List LVal → List LVal
  | 0, _ => []
  | n + 1, l => l ++ repL n l

def buildV (E : Env) (t : TypeId) (ps : List (Nat × LVal)) : Tree LVal :=
  match E.tt.get t with
  | some ⟨.struct fs, _, _, z⟩ => (fillL (fieldOf E fs) z ps).bind fun c => .done (.agg c)
  | some ⟨.arr _ e, _, _, z⟩ => match E.size e with
    | some s => (fillL (fun i => some (i * s, s)) z ps).bind fun c => .done (.agg c)
    | none => .fail 37
  | _ => .fail 38

/-- Is a block no nil? -/
def okNil {α : Type} (b : Blk) (t : Tree α) : Tree α :=
  match b.nils with
  | true => .need (b.nil = false) t
  | false => match b.nil with
    | true => .fail 39
    | false => t

def loadV (E : Env) (st : St) (t : TypeId) (p : LVal) : Tree Eff :=
  match p with
  | .ptr id off => match st.hp.get id with
    | some b => okNil b (match E.tt.get t with
        | some i => (readC b.cont off i.size).bind fun cs => match i.agg with
          | true => .done ⟨.agg cs, [], [id], 0⟩
          | false => match cs with
            | [v] => .done ⟨v, [], [id], 0⟩
            | _ => .fail 40
        | none => .fail 41)
    | none => .fail 42
  | _ => .fail 43

def storeV (E : Env) (st : St) (t : TypeId) (p x : LVal) : Tree Eff :=
  match p with
  | .ptr id off => match st.hp.get id with
    | some b => match b.own with
      | true => match E.tt.get t with
        | some i => match Nat.beq x.cells.length i.size && Nat.ble 1 i.size with
          | true => match allOne x.cells with
            | true => (writeC b.cont off x.cells).bind fun c => .done ⟨noVal, [⟨id, some { b with cont := c }⟩], [id], 0⟩
            | false => .fail 44
          | false => .fail 45
        | none => .fail 46
      | false => .fail 47
    | none => .fail 48
  | _ => .fail 49

/-- A bound of a slice expression: a number that is not negative. -/
def boundN (x : Option LVal) (d : NN) (k : NN → Tree Eff) : Tree Eff :=
  match x with
  | none => k d
  | some (.int _ n) => nonneg n (k n.toNN)
  | some _ => .fail 50

/-- Where a slice of l cells from a place on begins: where nothing is left of the capacity the address stays. -/
def offAt (off l len : NN) (cap : Option NN) (esz : Nat) : Tree NN :=
  match l with
  | .lit 0 => .done off
  | l => match cap with
    | none => .fail 51
    | some (.lit c) => match l with
      | .lit x => match Nat.beq c x with
        | true => .done off
        | false => .done (off.add (.lit (x * esz)))
      | .sym x => off.on fun o => .done (.sym (if c = x then o else o + x * esz))
    | some (.sym c) => l.on fun x => off.on fun o => .done (.sym (if c = x then o else o + x * esz))

/-- The bounds of a slice expression over len values of cap. -/
def bounds3 (len cap : NN) (lo hi mx : Option LVal) (k : NN → NN → NN → Tree Eff) : Tree Eff :=
  match hi, mx with
  | none, some _ => .fail 61
  | hi, mx => boundN mx cap fun m => leN m cap (boundN hi len fun h => leN h m (boundN lo (.lit 0) fun l => leN l h (k l h m)))

/-- A slice that goes to the end of its block, cut by l: where nothing is left of it, its address stays. -/
def cutV (id : Nat) (off l len n : NN) : LVal :=
  match l, len with
  | .lit 0, _ => .slice id off n none
  | .lit x, .lit m => match Nat.blt x m with
    | true => .slice id (off.add (.lit x)) n none
    | false => .cut id off (.lit x) n
  | l, _ => .cut id off l n

def sliceV (E : Env) (t : TypeId) (x : LVal) (lo hi mx : Option LVal) : Tree Eff :=
  match x with
  | .ptr id off => match E.tt.get t with
    | some ⟨.arr n e, _, _, _⟩ => match E.size e with
      | some s => bounds3 (.lit n) (.lit n) lo hi mx fun l h m => (offAt off l h (some m) s).bind fun o => eff0 (.slice id o (h.sub l) (some (m.sub l)))
      | none => .fail 52
    | _ => .fail 53
  | .slice id off len cap => match E.tt.get t with
    | some ⟨.slice e, _, _, _⟩ => match E.size e with
      | some s => match cap with
        | some c => bounds3 len c lo hi mx fun l h m => (offAt off l h (some m) s).bind fun o => eff0 (.slice id o (h.sub l) (some (m.sub l)))
        | none => match mx, s with
          | none, 1 => bounds3 len len lo hi none fun l h _ => eff0 (cutV id off l len (h.sub l))
          | some q, 1 => bounds3 len len lo hi (some q) fun l h m => (offAt off l h (some m) 1).bind fun o => eff0 (.slice id o (h.sub l) (some (m.sub l)))
          | _, _ => .fail 54
      | none => .fail 55
    | _ => .fail 56
  | .cut id off c len => match E.tt.get t with
    | some ⟨.slice e, _, _, _⟩ => match E.size e, mx with
      | some 1, none => leN (.lit 1) len (bounds3 len len lo hi none fun l h _ => eff0 (cutV id (off.add c) l len (h.sub l)))
      | _, _ => .fail 69
    | _ => .fail 69
  | .nils => match E.tt.get t with
    | some ⟨.slice e, _, _, _⟩ => match E.size e with
      | some _ => bounds3 (.lit 0) (.lit 0) lo hi mx fun _ _ _ => eff0 .nils
      | none => .fail 57
    | _ => .fail 57
  | .raw (.string s) => match E.tt.get t with
    | some ⟨.str, _, _, _⟩ => match mx with
      | none => bounds3 (.sym s.size) (.sym s.size) lo hi none fun l h _ => eff0 (.raw (.string (s.extract l.v h.v)))
      | some _ => .fail 58
    | _ => .fail 59
  | _ => .fail 60

/-- What a slice holds, if its elements are one cell: known values, or a list of numbers. -/
inductive Els where
  | vals (l : List LVal)
  | ints (k : IntKind) (l : List Int)

def subL (l : List Int) (o n : Nat) : List Int := (l.drop o).take n

/-- The elements of a slice: n cells from a place on. -/
def elsOf (b : Blk) (off len : NN) : Tree Els :=
  match b.cont with
  | .cells l => match off, len with
    | .lit o, .lit n => match takeL n (dropL o l) with
      | some r => .done (.vals r)
      | none => .fail 61
    | _, _ => .fail 62
  | .ints k l => off.on fun o => len.on fun n => .need (o + n ≤ l.length) (.done (.ints k (subL l o n)))
  | .win _ _ => .fail 63
  | .seg wo k l => wo.on fun w => off.on fun o => len.on fun n => .need (w ≤ o ∧ o - w + n ≤ l.length) (.done (.ints k (subL l (o - w) n)))
  | .arr k m f => leN (off.add len) (.lit m) (match len with
    | .lit n => off.on fun o => .done (.vals (arrFrom k f o n))
    | .sym n => off.on fun o => .done (.ints k (rangeF f o n)))

def Els.len : Els → NN
  | .vals l => .lit l.length
  | .ints _ l => .sym l.length

def Els.app : Els → Els → Tree Cont
  | .vals a, .vals b => .done (.cells (a ++ b))
  | .vals a, .ints k l => match LVal.intsOf k a with
    | some r => .done (.ints k (r ++ l))
    | none => .fail 64
  | .ints k l, .vals b => match LVal.intsOf k b with
    | some r => .done (.ints k (l ++ r))
    | none => .fail 65
  | .ints k l, .ints k' r => match decide (k = k') with
    | true => .done (.ints k (l ++ r))
    | false => .fail 66

/-- A slice's elements, with the block that is read. -/
def sliceEls (st : St) (x : LVal) : Tree (Els × List Acc) :=
  match x with
  | .nils => .done (.vals [], [])
  | .slice id off len _ => match st.hp.get id with
    | some b => (elsOf b off len).bind fun e => .done (e, [id])
    | none => .fail 67
  | .cut id off l len => match st.hp.get id with
    | some b => (elsOf b (off.add l) len).bind fun e => .done (e, [id])
    | none => .fail 67
  | _ => .fail 68

/-- Is a slice's capacity all that its block has? -/
def okCap {α : Type} (cap size : Option NN) (k : Tree α) : Tree α :=
  match cap, size with
  | none, _ => k
  | some c, some s => eqN c s k
  | some _, none => .fail 70

def Els.isNil : Els → Bool
  | .vals l => l.isEmpty
  | .ints _ l => l.isEmpty

/-- Is it known whether there are elements? -/
def Els.sym : Els → Bool
  | .vals _ => false
  | .ints _ _ => true

/-- append of one slice to another: the result has a block number of its own, the old one's is given up. -/
def appendV (E : Env) (st : St) (t : TypeId) (s x : LVal) : Tree Eff :=
  match E.tt.get t with
  | some ⟨.slice e, _, _, _⟩ => match E.tt.get e with
    | some ei => match Nat.beq ei.size 1 && Nat.ble 1 ei.bytes with
      | true => (sliceEls st x).bind fun ex => match s with
        | .nils => (Els.app (.vals []) ex.1).bind fun c =>
          leN (ex.1.len.mulc ei.bytes) (.lit 140737488355328) (.done ⟨.slice st.nid (.lit 0) ex.1.len none,
            [⟨st.nid, some ⟨true, ex.1.sym, ex.1.isNil, none, c⟩⟩], st.nid :: ex.2, 1⟩)
        | .slice id (.lit 0) len cap => match st.hp.get id with
          | some b => match b.own with
            | true => okCap cap b.size <| (elsOf b (.lit 0) len).bind fun es => (Els.app es ex.1).bind fun c =>
              leN ((len.add ex.1.len).mulc ei.bytes) (.lit 140737488355328) (.done ⟨.slice st.nid (.lit 0) (len.add ex.1.len) none,
                  [⟨id, none⟩, ⟨st.nid, some ⟨true, b.nils || b.nil, b.nil && ex.1.isNil, none, c⟩⟩], id :: st.nid :: ex.2, 1⟩)
            | false => .fail 71
          | none => .fail 72
        | _ => .fail 73
      | false => .fail 74
    | none => .fail 75
  | _ => .fail 76

/-- The first m of some values written over others, for a number m that is not known: a number each. -/
def overL (k : IntKind) (m : Nat) : Nat → List LVal → List LVal → Option (List LVal)
  | _, [], _ => some []
  | j, .int k' o :: os, .int k'' s :: ss => match decide (k = k'), decide (k = k'') with
    | true, true => match overL k m (j + 1) os ss with
      | some r => s.on fun s => o.on fun o => some (.int k (.sym (if j < m then s else o)) :: r)
      | none => none
    | _, _ => none
  | _, _, _ => none

def padL (k : IntKind) : Nat → List LVal → List LVal
  | 0, _ => []
  | n + 1, [] => .int k (.lit 0) :: padL k n []
  | n + 1, v :: l => v :: padL k n l

def NN.min (a b : NN) : NN :=
  match a, b with
  | .lit x, .lit y => .lit (Nat.min x y)
  | a, b => a.on fun a => b.on fun b => .sym (Nat.min a b)

/-- What copy makes of the cells that it writes into, and how many values it copies. -/
def copyC0 (k : IntKind) (d : Cont) (off len : NN) (s : Cont) (ox lx : NN) : Tree (Cont × LN) :=
  match d with
  | .cells l => match off, len with
    | .lit o, .lit n => match s with
      | .cells q => match ox, lx with
        | .lit p, .lit m => match takeL (Nat.min m n) (dropL p q) with
          | some vs => match writeL o vs l with
            | some r => .done (.cells r, .lit (Int.ofNat (Nat.min m n)))
            | none => .fail 80
          | none => .fail 81
        | .lit p, .sym m => match takeL n (dropL o l) with
          | some old => .need (p + m ≤ q.length) (match overL k m 0 old (padL k n (dropL p q)) with
            | some vs => match writeL o vs l with
              | some r => .done (.cells r, .sym ((Nat.min m n : Nat) : Int))
              | none => .fail 82
            | none => .fail 83)
          | none => .fail 84
        | _, _ => .fail 88
      | .ints k' q => match decide (k = k'), takeL n (dropL o l) with
        | true, some old => ox.on fun ox => lx.on fun lx => .need (ox + lx ≤ q.length) (match overL k lx 0 old (intsFrom k (subL q ox lx) 0 n) with
          | some vs => match writeL o vs l with
            | some r => .done (.cells r, .sym ((Nat.min lx n : Nat) : Int))
            | none => .fail 85
          | none => .fail 86)
        | _, _ => .fail 87
      | _ => .fail 89
    | _, _ => .fail 90
  | .ints k' l => match decide (k = k') with
    | true => off.on fun off => len.on fun len => .need (off + len ≤ l.length) (match s with
      | .cells q => match ox, lx with
        | .lit p, .lit m => match takeL m (dropL p q) with
          | some vs => match LVal.intsOf k vs with
            | some r => .done (.ints k (l.take off ++ r.take len ++ l.drop (off + Nat.min m len)), .sym ((Nat.min m len : Nat) : Int))
            | none => .fail 91
          | none => .fail 97
        | _, _ => .fail 98
      | .ints k'' q => match decide (k = k'') with
        | true => ox.on fun ox => lx.on fun lx => .need (ox + lx ≤ q.length) (.done (.ints k (l.take off ++ (subL q ox lx).take len ++ l.drop (off + Nat.min lx len)), .sym ((Nat.min lx len : Nat) : Int)))
        | false => .fail 99
      | _ => .fail 79)
    | false => .fail 78
  | _ => .fail 77

def copyC (k : IntKind) (d : Cont) (off len : NN) (s : Cont) (ox lx : NN) : Tree (Cont × LN) :=
  match s with
  | .seg wo k' q => wo.on fun w => ox.on fun o => .need (w ≤ o) (copyC0 k d off len (.ints k' q) (.sym (o - w)) lx)
  | .arr k' m f => copyC0 k d off len (.ints k' (rangeF f 0 m)) ox lx
  | s => copyC0 k d off len s ox lx

/-- copy: as many values as both have. -/
def copyV (E : Env) (st : St) (t : TypeId) (d x : LVal) : Tree Eff :=
  match E.tt.get t with
  | some ⟨.slice e, _, _, _⟩ => match E.tt.get e with
    | some ⟨.int k, 1, _, _⟩ => match d, x with
      | .nils, .nils => eff0 (.int .i64 (.lit 0))
      | .slice .., .nils => eff0 (.int .i64 (.lit 0))
      | .slice id off len _, .slice ix ox lx _ => match st.hp.get id, st.hp.get ix with
        | some b, some bx => match b.own with
          | true => (copyC k b.cont off len bx.cont ox lx).bind fun r => .done ⟨.int .i64 r.2, [⟨id, some { b with cont := r.1 }⟩], [id, ix], 0⟩
          | false => .fail 92
        | _, _ => .fail 93
      | .slice id off len _, .cut ix ox l lx => match st.hp.get id, st.hp.get ix with
        | some b, some bx => match b.own with
          | true => (copyC k b.cont off len bx.cont (ox.add l) lx).bind fun r => .done ⟨.int .i64 r.2, [⟨id, some { b with cont := r.1 }⟩], [id, ix], 0⟩
          | false => .fail 92
        | _, _ => .fail 93
      | _, _ => .fail 94
    | _ => .fail 95
  | _ => .fail 96

end Go.LE

/- Written by a program of this session: the rows of the table of types that the evaluator asks for. -/
namespace Go.LE
/- 1 -/
def z1 : List LVal := [.raw .nilFunc]
def ti1 : TI := ⟨.func, 1, 8, z1⟩
/- 2 -/
def z2 : List LVal := [.int .i64 (.lit 0)]
def ti2 : TI := ⟨.int .i64, 1, 8, z2⟩
/- 3 -/
def z3 : List LVal := [.int .i64 (.lit 0)]
def ti3 : TI := ⟨.int .i64, 1, 8, z3⟩
/- 4 -/
def z4 : List LVal := [.bool false false]
def ti4 : TI := ⟨.bool, 1, 1, z4⟩
/- 5 -/
def z5 : List LVal := [.int .u8 (.lit 0)]
def ti5 : TI := ⟨.int .u8, 1, 1, z5⟩
/- 6 -/
def z6 : List LVal := [.int .u8 (.lit 0)]
def ti6 : TI := ⟨.int .u8, 1, 1, z6⟩
/- 9 -/
def z9 : List LVal := [.raw (.string ByteArray.empty)]
def ti9 : TI := ⟨.str, 1, 16, z9⟩
/- 10 -/
def z10 : List LVal := [.raw (.string ByteArray.empty)]
def ti10 : TI := ⟨.str, 1, 16, z10⟩
/- 11 -/
def z11 : List LVal := [.raw (.string ByteArray.empty)]
def ti11 : TI := ⟨.str, 1, 16, z11⟩
/- 12 -/
def z12 : List LVal := [.int .u64 (.lit 0)]
def ti12 : TI := ⟨.int .u64, 1, 8, z12⟩
/- 15 -/
def z15 : List LVal := [.nilp]
def ti15 : TI := ⟨.ptr 226, 1, 8, z15⟩
/- 16 -/
def z16 : List LVal := [.nilp]
def ti16 : TI := ⟨.ptr 229, 1, 8, z16⟩
/- 17 -/
def z17 : List LVal := [.nilp]
def ti17 : TI := ⟨.ptr 237, 1, 8, z17⟩
/- 21 -/
def z21 : List LVal := [.int .i32 (.lit 0)]
def ti21 : TI := ⟨.int .i32, 1, 4, z21⟩
/- 22 -/
def z22 : List LVal := [.nils]
def ti22 : TI := ⟨.slice 23, 1, 24, z22⟩
/- 24 -/
def z24 : List LVal := [.int .u64 (.lit 0)]
def ti24 : TI := ⟨.int .u64, 1, 8, z24⟩
/- 25 -/
def z25 : List LVal := [.raw .nilFunc]
def ti25 : TI := ⟨.func, 1, 8, z25⟩
/- 26 -/
def z26 : List LVal := [.int .u32 (.lit 0)]
def ti26 : TI := ⟨.int .u32, 1, 4, z26⟩
/- 27 -/
def z27 : List LVal := [.raw .nilFunc]
def ti27 : TI := ⟨.func, 1, 8, z27⟩
/- 28 -/
def z28 : List LVal := [.raw .nilFunc]
def ti28 : TI := ⟨.func, 1, 8, z28⟩
/- 29 -/
def z29 : List LVal := [.raw .nilFunc]
def ti29 : TI := ⟨.func, 1, 8, z29⟩
/- 30 -/
def z30 : List LVal := [.int .u64 (.lit 0)]
def ti30 : TI := ⟨.int .u64, 1, 8, z30⟩
/- 34 -/
def z34 : List LVal := [.raw .nilFunc]
def ti34 : TI := ⟨.func, 1, 8, z34⟩
/- 35 -/
def z35 : List LVal := [.raw .nilFunc]
def ti35 : TI := ⟨.func, 1, 8, z35⟩
/- 36 -/
def z36 : List LVal := [.raw .nilFunc]
def ti36 : TI := ⟨.func, 1, 8, z36⟩
/- 37 -/
def z37 : List LVal := [.raw .nilFunc]
def ti37 : TI := ⟨.func, 1, 8, z37⟩
/- 38 -/
def z38 : List LVal := [.raw .nilFunc]
def ti38 : TI := ⟨.func, 1, 8, z38⟩
/- 40 -/
def z40 : List LVal := [.raw .nilFunc]
def ti40 : TI := ⟨.func, 1, 8, z40⟩
/- 41 -/
def z41 : List LVal := [.raw .nilFunc]
def ti41 : TI := ⟨.func, 1, 8, z41⟩
/- 42 -/
def z42 : List LVal := [.raw .nilFunc]
def ti42 : TI := ⟨.func, 1, 8, z42⟩
/- 43 -/
def z43 : List LVal := [.raw .nilFunc]
def ti43 : TI := ⟨.func, 1, 8, z43⟩
/- 44 -/
def z44 : List LVal := [.raw .nilFunc]
def ti44 : TI := ⟨.func, 1, 8, z44⟩
/- 45 -/
def z45 : List LVal := [.raw .nilFunc]
def ti45 : TI := ⟨.func, 1, 8, z45⟩
/- 46 -/
def z46 : List LVal := [.nils]
def ti46 : TI := ⟨.slice 5, 1, 24, z46⟩
/- 47 -/
def z47 : List LVal := [.nilp]
def ti47 : TI := ⟨.ptr 83, 1, 8, z47⟩
/- 48 -/
def z48 : List LVal := [.raw .nilFunc]
def ti48 : TI := ⟨.func, 1, 8, z48⟩
/- 49 -/
def z49 : List LVal := [.nilp]
def ti49 : TI := ⟨.ptr 126, 1, 8, z49⟩
/- 50 -/
def z50 : List LVal := [.raw .nilFunc]
def ti50 : TI := ⟨.func, 1, 8, z50⟩
/- 51 -/
def z51 : List LVal := [.int .i64 (.lit 0)]
def ti51 : TI := ⟨.int .i64, 1, 8, z51⟩
/- 53 -/
def z53 : List LVal := [.raw .nilFunc]
def ti53 : TI := ⟨.func, 1, 8, z53⟩
/- 54 -/
def z54 : List LVal := [.raw .nilFunc]
def ti54 : TI := ⟨.func, 1, 8, z54⟩
/- 55 -/
def z55 : List LVal := [.raw .nilFunc]
def ti55 : TI := ⟨.func, 1, 8, z55⟩
/- 56 -/
def z56 : List LVal := [.raw .nilFunc]
def ti56 : TI := ⟨.func, 1, 8, z56⟩
/- 57 -/
def z57 : List LVal := [.nils]
def ti57 : TI := ⟨.slice 46, 1, 24, z57⟩
/- 58 -/
def z58 : List LVal := [.raw .nilFunc]
def ti58 : TI := ⟨.func, 1, 8, z58⟩
/- 59 -/
def z59 : List LVal := [.raw .nilFunc]
def ti59 : TI := ⟨.func, 1, 8, z59⟩
/- 60 -/
def z60 : List LVal := [.nils]
def ti60 : TI := ⟨.slice 3, 1, 24, z60⟩
/- 61 -/
def z61 : List LVal := [.raw .nilFunc]
def ti61 : TI := ⟨.func, 1, 8, z61⟩
/- 62 -/
def z62 : List LVal := [.raw .nilFunc]
def ti62 : TI := ⟨.func, 1, 8, z62⟩
/- 63 -/
def z63 : List LVal := [.raw .nilFunc]
def ti63 : TI := ⟨.func, 1, 8, z63⟩
/- 64 -/
def z64 : List LVal := [.raw .nilFunc]
def ti64 : TI := ⟨.func, 1, 8, z64⟩
/- 67 -/
def z67 : List LVal := [.raw .nilFunc]
def ti67 : TI := ⟨.func, 1, 8, z67⟩
/- 68 -/
def z68 : List LVal := [.raw .nilFunc]
def ti68 : TI := ⟨.func, 1, 8, z68⟩
/- 69 -/
def z69 : List LVal := [.raw .nilFunc]
def ti69 : TI := ⟨.func, 1, 8, z69⟩
/- 70 -/
def z70 : List LVal := [.raw .nilFunc]
def ti70 : TI := ⟨.func, 1, 8, z70⟩
/- 71 -/
def z71 : List LVal := [.raw .nilFunc]
def ti71 : TI := ⟨.func, 1, 8, z71⟩
/- 72 -/
def z72 : List LVal := [.raw .nilFunc]
def ti72 : TI := ⟨.func, 1, 8, z72⟩
/- 73 -/
def z73 : List LVal := [.nils]
def ti73 : TI := ⟨.slice 78, 1, 24, z73⟩
/- 80 -/
def z80 : List LVal := [.raw .nilFunc]
def ti80 : TI := ⟨.func, 1, 8, z80⟩
/- 81 -/
def z81 : List LVal := [.raw .nilFunc]
def ti81 : TI := ⟨.func, 1, 8, z81⟩
/- 86 -/
def z86 : List LVal := [.raw .nilFunc]
def ti86 : TI := ⟨.func, 1, 8, z86⟩
/- 90 -/
def z90 : List LVal := [.raw .nilFunc]
def ti90 : TI := ⟨.func, 1, 8, z90⟩
/- 91 -/
def z91 : List LVal := [.nilp]
def ti91 : TI := ⟨.ptr 140, 1, 8, z91⟩
/- 93 -/
def z93 : List LVal := [.raw .nilFunc]
def ti93 : TI := ⟨.func, 1, 8, z93⟩
/- 94 -/
def z94 : List LVal := [.raw .nilFunc]
def ti94 : TI := ⟨.func, 1, 8, z94⟩
/- 96 -/
def z96 : List LVal := [.raw .nilFunc]
def ti96 : TI := ⟨.func, 1, 8, z96⟩
/- 97 -/
def z97 : List LVal := [.raw .nilFunc]
def ti97 : TI := ⟨.func, 1, 8, z97⟩
/- 98 -/
def z98 : List LVal := [.raw .nilFunc]
def ti98 : TI := ⟨.func, 1, 8, z98⟩
/- 99 -/
def z99 : List LVal := [.raw .nilFunc]
def ti99 : TI := ⟨.func, 1, 8, z99⟩
/- 100 -/
def z100 : List LVal := [.raw .nilFunc]
def ti100 : TI := ⟨.func, 1, 8, z100⟩
/- 101 -/
def z101 : List LVal := [.raw .nilFunc]
def ti101 : TI := ⟨.func, 1, 8, z101⟩
/- 103 -/
def z103 : List LVal := [.raw .nilFunc]
def ti103 : TI := ⟨.func, 1, 8, z103⟩
/- 104 -/
def z104 : List LVal := [.raw .nilFunc]
def ti104 : TI := ⟨.func, 1, 8, z104⟩
/- 105 -/
def z105 : List LVal := [.raw .nilFunc]
def ti105 : TI := ⟨.func, 1, 8, z105⟩
/- 108 -/
def z108 : List LVal := [.raw .nilFunc]
def ti108 : TI := ⟨.func, 1, 8, z108⟩
/- 109 -/
def z109 : List LVal := [.raw .nilFunc]
def ti109 : TI := ⟨.func, 1, 8, z109⟩
/- 110 -/
def z110 : List LVal := [.raw .nilFunc]
def ti110 : TI := ⟨.func, 1, 8, z110⟩
/- 111 -/
def z111 : List LVal := [.raw .nilFunc]
def ti111 : TI := ⟨.func, 1, 8, z111⟩
/- 112 -/
def z112 : List LVal := [.raw .nilFunc]
def ti112 : TI := ⟨.func, 1, 8, z112⟩
/- 113 -/
def z113 : List LVal := [.raw .nilFunc]
def ti113 : TI := ⟨.func, 1, 8, z113⟩
/- 115 -/
def z115 : List LVal := [.raw .nilFunc]
def ti115 : TI := ⟨.func, 1, 8, z115⟩
/- 116 -/
def z116 : List LVal := [.raw .nilFunc]
def ti116 : TI := ⟨.func, 1, 8, z116⟩
/- 119 -/
def z119 : List LVal := [.raw .nilFunc]
def ti119 : TI := ⟨.func, 1, 8, z119⟩
/- 120 -/
def z120 : List LVal := [.nilp]
def ti120 : TI := ⟨.ptr 118, 1, 8, z120⟩
/- 121 -/
def z121 : List LVal := [.raw .nilFunc]
def ti121 : TI := ⟨.func, 1, 8, z121⟩
/- 123 -/
def z123 : List LVal := [.raw .nilFunc]
def ti123 : TI := ⟨.func, 1, 8, z123⟩
/- 124 -/
def z124 : List LVal := [.nils]
def ti124 : TI := ⟨.slice 39, 1, 24, z124⟩
/- 127 -/
def z127 : List LVal := [.raw .nilFunc]
def ti127 : TI := ⟨.func, 1, 8, z127⟩
/- 128 -/
def z128 : List LVal := [.raw .nilFunc]
def ti128 : TI := ⟨.func, 1, 8, z128⟩
/- 129 -/
def z129 : List LVal := [.raw .nilFunc]
def ti129 : TI := ⟨.func, 1, 8, z129⟩
/- 130 -/
def z130 : List LVal := [.raw .nilFunc]
def ti130 : TI := ⟨.func, 1, 8, z130⟩
/- 132 -/
def z132 : List LVal := [.raw .nilFunc]
def ti132 : TI := ⟨.func, 1, 8, z132⟩
/- 133 -/
def z133 : List LVal := [.nilp]
def ti133 : TI := ⟨.ptr 75, 1, 8, z133⟩
/- 135 -/
def z135 : List LVal := [.raw .nilFunc]
def ti135 : TI := ⟨.func, 1, 8, z135⟩
/- 138 -/
def z138 : List LVal := [.nilp]
def ti138 : TI := ⟨.ptr 39, 1, 8, z138⟩
/- 141 -/
def z141 : List LVal := [.raw .nilFunc]
def ti141 : TI := ⟨.func, 1, 8, z141⟩
/- 142 -/
def z142 : List LVal := [.raw .nilFunc]
def ti142 : TI := ⟨.func, 1, 8, z142⟩
/- 144 -/
def z144 : List LVal := [.raw .nilFunc]
def ti144 : TI := ⟨.func, 1, 8, z144⟩
/- 145 -/
def z145 : List LVal := [.raw .nilFunc]
def ti145 : TI := ⟨.func, 1, 8, z145⟩
/- 146 -/
def z146 : List LVal := [.raw .nilFunc]
def ti146 : TI := ⟨.func, 1, 8, z146⟩
/- 148 -/
def z148 : List LVal := [.raw .nilFunc]
def ti148 : TI := ⟨.func, 1, 8, z148⟩
/- 149 -/
def z149 : List LVal := [.raw .nilFunc]
def ti149 : TI := ⟨.func, 1, 8, z149⟩
/- 150 -/
def z150 : List LVal := [.raw .nilFunc]
def ti150 : TI := ⟨.func, 1, 8, z150⟩
/- 153 -/
def z153 : List LVal := [.raw .nilFunc]
def ti153 : TI := ⟨.func, 1, 8, z153⟩
/- 156 -/
def z156 : List LVal := [.raw .nilFunc]
def ti156 : TI := ⟨.func, 1, 8, z156⟩
/- 161 -/
def z161 : List LVal := [.raw .nilFunc]
def ti161 : TI := ⟨.func, 1, 8, z161⟩
/- 162 -/
def z162 : List LVal := [.raw .nilFunc]
def ti162 : TI := ⟨.func, 1, 8, z162⟩
/- 163 -/
def z163 : List LVal := [.raw .nilFunc]
def ti163 : TI := ⟨.func, 1, 8, z163⟩
/- 165 -/
def z165 : List LVal := [.raw .nilFunc]
def ti165 : TI := ⟨.func, 1, 8, z165⟩
/- 166 -/
def z166 : List LVal := [.nilp]
def ti166 : TI := ⟨.ptr 188, 1, 8, z166⟩
/- 167 -/
def z167 : List LVal := [.raw .nilFunc]
def ti167 : TI := ⟨.func, 1, 8, z167⟩
/- 168 -/
def z168 : List LVal := [.raw .nilFunc]
def ti168 : TI := ⟨.func, 1, 8, z168⟩
/- 169 -/
def z169 : List LVal := [.nilp]
def ti169 : TI := ⟨.ptr 137, 1, 8, z169⟩
/- 170 -/
def z170 : List LVal := [.raw .nilFunc]
def ti170 : TI := ⟨.func, 1, 8, z170⟩
/- 171 -/
def z171 : List LVal := [.raw .nilFunc]
def ti171 : TI := ⟨.func, 1, 8, z171⟩
/- 172 -/
def z172 : List LVal := [.raw .nilFunc]
def ti172 : TI := ⟨.func, 1, 8, z172⟩
/- 173 -/
def z173 : List LVal := [.raw .nilFunc]
def ti173 : TI := ⟨.func, 1, 8, z173⟩
/- 174 -/
def z174 : List LVal := [.raw .nilFunc]
def ti174 : TI := ⟨.func, 1, 8, z174⟩
/- 175 -/
def z175 : List LVal := [.raw .nilFunc]
def ti175 : TI := ⟨.func, 1, 8, z175⟩
/- 176 -/
def z176 : List LVal := [.raw .nilFunc]
def ti176 : TI := ⟨.func, 1, 8, z176⟩
/- 177 -/
def z177 : List LVal := [.raw .nilFunc]
def ti177 : TI := ⟨.func, 1, 8, z177⟩
/- 178 -/
def z178 : List LVal := [.raw .nilFunc]
def ti178 : TI := ⟨.func, 1, 8, z178⟩
/- 180 -/
def z180 : List LVal := [.raw .nilFunc]
def ti180 : TI := ⟨.func, 1, 8, z180⟩
/- 181 -/
def z181 : List LVal := [.raw .nilFunc]
def ti181 : TI := ⟨.func, 1, 8, z181⟩
/- 182 -/
def z182 : List LVal := [.nilp]
def ti182 : TI := ⟨.ptr 26, 1, 8, z182⟩
/- 183 -/
def z183 : List LVal := [.raw .nilFunc]
def ti183 : TI := ⟨.func, 1, 8, z183⟩
/- 184 -/
def z184 : List LVal := [.raw .nilFunc]
def ti184 : TI := ⟨.func, 1, 8, z184⟩
/- 189 -/
def z189 : List LVal := [.raw .nilFunc]
def ti189 : TI := ⟨.func, 1, 8, z189⟩
/- 190 -/
def z190 : List LVal := [.nilp]
def ti190 : TI := ⟨.ptr 213, 1, 8, z190⟩
/- 192 -/
def z192 : List LVal := [.raw .nilFunc]
def ti192 : TI := ⟨.func, 1, 8, z192⟩
/- 193 -/
def z193 : List LVal := [.raw .nilFunc]
def ti193 : TI := ⟨.func, 1, 8, z193⟩
/- 194 -/
def z194 : List LVal := [.raw .nilFunc]
def ti194 : TI := ⟨.func, 1, 8, z194⟩
/- 195 -/
def z195 : List LVal := [.raw .nilFunc]
def ti195 : TI := ⟨.func, 1, 8, z195⟩
/- 196 -/
def z196 : List LVal := [.raw .nilFunc]
def ti196 : TI := ⟨.func, 1, 8, z196⟩
/- 197 -/
def z197 : List LVal := [.raw .nilFunc]
def ti197 : TI := ⟨.func, 1, 8, z197⟩
/- 200 -/
def z200 : List LVal := [.raw .nilFunc]
def ti200 : TI := ⟨.func, 1, 8, z200⟩
/- 202 -/
def z202 : List LVal := [.raw .nilFunc]
def ti202 : TI := ⟨.func, 1, 8, z202⟩
/- 204 -/
def z204 : List LVal := [.raw .nilFunc]
def ti204 : TI := ⟨.func, 1, 8, z204⟩
/- 205 -/
def z205 : List LVal := [.raw .nilFunc]
def ti205 : TI := ⟨.func, 1, 8, z205⟩
/- 206 -/
def z206 : List LVal := [.raw .nilFunc]
def ti206 : TI := ⟨.func, 1, 8, z206⟩
/- 207 -/
def z207 : List LVal := [.raw .nilFunc]
def ti207 : TI := ⟨.func, 1, 8, z207⟩
/- 209 -/
def z209 : List LVal := [.raw .nilFunc]
def ti209 : TI := ⟨.func, 1, 8, z209⟩
/- 211 -/
def z211 : List LVal := [.raw .nilFunc]
def ti211 : TI := ⟨.func, 1, 8, z211⟩
/- 214 -/
def z214 : List LVal := [.raw .nilFunc]
def ti214 : TI := ⟨.func, 1, 8, z214⟩
/- 216 -/
def z216 : List LVal := [.raw .nilFunc]
def ti216 : TI := ⟨.func, 1, 8, z216⟩
/- 218 -/
def z218 : List LVal := [.nils]
def ti218 : TI := ⟨.slice 26, 1, 24, z218⟩
/- 220 -/
def z220 : List LVal := [.raw .nilFunc]
def ti220 : TI := ⟨.func, 1, 8, z220⟩
/- 221 -/
def z221 : List LVal := [.raw .nilFunc]
def ti221 : TI := ⟨.func, 1, 8, z221⟩
/- 222 -/
def z222 : List LVal := [.raw .nilFunc]
def ti222 : TI := ⟨.func, 1, 8, z222⟩
/- 223 -/
def z223 : List LVal := [.raw .nilFunc]
def ti223 : TI := ⟨.func, 1, 8, z223⟩
/- 224 -/
def z224 : List LVal := [.raw .nilFunc]
def ti224 : TI := ⟨.func, 1, 8, z224⟩
/- 230 -/
def z230 : List LVal := [.int .u8 (.lit 0)]
def ti230 : TI := ⟨.int .u8, 1, 1, z230⟩
/- 231 -/
def z231 : List LVal := [.int .u8 (.lit 0)]
def ti231 : TI := ⟨.int .u8, 1, 1, z231⟩
/- 232 -/
def z232 : List LVal := [.raw .nilFunc]
def ti232 : TI := ⟨.func, 1, 8, z232⟩
/- 233 -/
def z233 : List LVal := [.nilp]
def ti233 : TI := ⟨.ptr 5, 1, 8, z233⟩
/- 234 -/
def z234 : List LVal := [.int .i32 (.lit 0)]
def ti234 : TI := ⟨.int .i32, 1, 4, z234⟩
/- 235 -/
def z235 : List LVal := [.int .i32 (.lit 0)]
def ti235 : TI := ⟨.int .i32, 1, 4, z235⟩
/- 7 -/
def z7 : List LVal := z2 ++ z3 ++ z4 ++ z6
def ti7 : TI := ⟨.struct [(0, 2), (1, 3), (2, 4), (3, 6)], 4, 24, z7⟩
/- 8 -/
def z8 : List LVal := z2 ++ z3 ++ z4 ++ z6
def ti8 : TI := ⟨.struct [(0, 2), (1, 3), (2, 4), (3, 6)], 4, 24, z8⟩
/- 13 -/
def z13 : List LVal := z9 ++ z12
def ti13 : TI := ⟨.struct [(0, 9), (1, 12)], 2, 24, z13⟩
/- 14 -/
def z14 : List LVal := z9 ++ z12
def ti14 : TI := ⟨.struct [(0, 9), (1, 12)], 2, 24, z14⟩
/- 18 -/
def z18 : List LVal := z17
def ti18 : TI := ⟨.struct [(0, 17)], 1, 8, z18⟩
/- 19 -/
def z19 : List LVal := z17
def ti19 : TI := ⟨.struct [(0, 17)], 1, 8, z19⟩
/- 23 -/
def z23 : List LVal := repL 32 z5
def ti23 : TI := ⟨.arr 32 5, 32, 32, z23⟩
/- 31 -/
def z31 : List LVal := repL 5 z30
def ti31 : TI := ⟨.arr 5 30, 5, 40, z31⟩
/- 39 -/
def z39 : List LVal := repL 32 z5
def ti39 : TI := ⟨.arr 32 5, 32, 32, z39⟩
/- 65 -/
def z65 : List LVal := repL 12 z5
def ti65 : TI := ⟨.arr 12 5, 12, 12, z65⟩
/- 74 -/
def z74 : List LVal := z47 ++ z49
def ti74 : TI := ⟨.struct [(0, 47), (1, 49)], 2, 16, z74⟩
/- 75 -/
def z75 : List LVal := z47 ++ z49
def ti75 : TI := ⟨.struct [(0, 47), (1, 49)], 2, 16, z75⟩
/- 77 -/
def z77 : List LVal := z3 ++ z3 ++ z46 ++ z46
def ti77 : TI := ⟨.struct [(0, 3), (1, 3), (2, 46), (3, 46)], 4, 64, z77⟩
/- 78 -/
def z78 : List LVal := z3 ++ z3 ++ z46 ++ z46
def ti78 : TI := ⟨.struct [(0, 3), (1, 3), (2, 46), (3, 46)], 4, 64, z78⟩
/- 106 -/
def z106 : List LVal := repL 16 z3
def ti106 : TI := ⟨.arr 16 3, 16, 128, z106⟩
/- 107 -/
def z107 : List LVal := repL 16 z3
def ti107 : TI := ⟨.arr 16 3, 16, 128, z107⟩
/- 131 -/
def z131 : List LVal := repL 16 z5
def ti131 : TI := ⟨.arr 16 5, 16, 16, z131⟩
/- 151 -/
def z151 : List LVal := z30 ++ z30
def ti151 : TI := ⟨.struct [(0, 30), (1, 30)], 2, 16, z151⟩
/- 152 -/
def z152 : List LVal := z30 ++ z30
def ti152 : TI := ⟨.struct [(0, 30), (1, 30)], 2, 16, z152⟩
/- 157 -/
def z157 : List LVal := repL 32 z3
def ti157 : TI := ⟨.arr 32 3, 32, 256, z157⟩
/- 164 -/
def z164 : List LVal := repL 64 z5
def ti164 : TI := ⟨.arr 64 5, 64, 64, z164⟩
/- 179 -/
def z179 : List LVal := repL 16 z26
def ti179 : TI := ⟨.arr 16 26, 16, 64, z179⟩
/- 185 -/
def z185 : List LVal := repL 2 z30
def ti185 : TI := ⟨.arr 2 30, 2, 16, z185⟩
/- 186 -/
def z186 : List LVal := repL 3 z30
def ti186 : TI := ⟨.arr 3 30, 3, 24, z186⟩
/- 198 -/
def z198 : List LVal := repL 4 z3
def ti198 : TI := ⟨.arr 4 3, 4, 32, z198⟩
/- 201 -/
def z201 : List LVal := repL 4 z26
def ti201 : TI := ⟨.arr 4 26, 4, 16, z201⟩
/- 203 -/
def z203 : List LVal := repL 17 z3
def ti203 : TI := ⟨.arr 17 3, 17, 136, z203⟩
/- 208 -/
def z208 : List LVal := repL 17 z5
def ti208 : TI := ⟨.arr 17 5, 17, 17, z208⟩
/- 210 -/
def z210 : List LVal := repL 8 z26
def ti210 : TI := ⟨.arr 8 26, 8, 32, z210⟩
/- 217 -/
def z217 : List LVal := repL 4 z30
def ti217 : TI := ⟨.arr 4 30, 4, 32, z217⟩
/- 219 -/
def z219 : List LVal := repL 10 z30
def ti219 : TI := ⟨.arr 10 30, 10, 80, z219⟩
/- 225 -/
def z225 : List LVal := z17 ++ z17 ++ z17 ++ z9
def ti225 : TI := ⟨.struct [(0, 17), (1, 17), (2, 17), (3, 9)], 4, 40, z225⟩
/- 226 -/
def z226 : List LVal := z17 ++ z17 ++ z17 ++ z9
def ti226 : TI := ⟨.struct [(0, 17), (1, 17), (2, 17), (3, 9)], 4, 40, z226⟩
/- 236 -/
def z236 : List LVal := z12 ++ z12 ++ z26 ++ z230 ++ z5 ++ z5 ++ z231 ++ z232 ++ z233 ++ z234 ++ z235
def ti236 : TI := ⟨.struct [(0, 12), (1, 12), (2, 26), (3, 230), (4, 5), (5, 5), (6, 231), (7, 232), (8, 233), (9, 234), (10, 235)], 11, 48, z236⟩
/- 237 -/
def z237 : List LVal := z12 ++ z12 ++ z26 ++ z230 ++ z5 ++ z5 ++ z231 ++ z232 ++ z233 ++ z234 ++ z235
def ti237 : TI := ⟨.struct [(0, 12), (1, 12), (2, 26), (3, 230), (4, 5), (5, 5), (6, 231), (7, 232), (8, 233), (9, 234), (10, 235)], 11, 48, z237⟩
/- 32 -/
def z32 : List LVal := z31
def ti32 : TI := ⟨.struct [(0, 31)], 5, 40, z32⟩
/- 33 -/
def z33 : List LVal := z31
def ti33 : TI := ⟨.struct [(0, 31)], 5, 40, z33⟩
/- 76 -/
def z76 : List LVal := repL 2 z75
def ti76 : TI := ⟨.arr 2 75, 4, 32, z76⟩
/- 82 -/
def z82 : List LVal := z4 ++ z39 ++ z3
def ti82 : TI := ⟨.struct [(0, 4), (1, 39), (33, 3)], 34, 48, z82⟩
/- 83 -/
def z83 : List LVal := z4 ++ z39 ++ z3
def ti83 : TI := ⟨.struct [(0, 4), (1, 39), (33, 3)], 34, 48, z83⟩
/- 84 -/
def z84 : List LVal := z3 ++ z39 ++ z39 ++ z46 ++ z39 ++ z39 ++ z39 ++ z46 ++ z46
def ti84 : TI := ⟨.struct [(0, 3), (1, 39), (33, 39), (65, 46), (66, 39), (98, 39), (130, 39), (162, 46), (163, 46)], 164, 240, z84⟩
/- 85 -/
def z85 : List LVal := z3 ++ z39 ++ z39 ++ z46 ++ z39 ++ z39 ++ z39 ++ z46 ++ z46
def ti85 : TI := ⟨.struct [(0, 3), (1, 39), (33, 39), (65, 46), (66, 39), (98, 39), (130, 39), (162, 46), (163, 46)], 164, 240, z85⟩
/- 87 -/
def z87 : List LVal := z3 ++ z4 ++ z39 ++ z39 ++ z46 ++ z39
def ti87 : TI := ⟨.struct [(0, 3), (1, 4), (2, 39), (34, 39), (66, 46), (67, 39)], 99, 136, z87⟩
/- 88 -/
def z88 : List LVal := z3 ++ z4 ++ z39 ++ z39 ++ z46 ++ z39
def ti88 : TI := ⟨.struct [(0, 3), (1, 4), (2, 39), (34, 39), (66, 46), (67, 39)], 99, 136, z88⟩
/- 125 -/
def z125 : List LVal := z4 ++ z39 ++ z3
def ti125 : TI := ⟨.struct [(0, 4), (1, 39), (33, 3)], 34, 48, z125⟩
/- 126 -/
def z126 : List LVal := z4 ++ z39 ++ z3
def ti126 : TI := ⟨.struct [(0, 4), (1, 39), (33, 3)], 34, 48, z126⟩
/- 136 -/
def z136 : List LVal := z23 ++ z39 ++ z39 ++ z3 ++ z4
def ti136 : TI := ⟨.struct [(0, 23), (32, 39), (64, 39), (96, 3), (97, 4)], 98, 112, z136⟩
/- 137 -/
def z137 : List LVal := z23 ++ z39 ++ z39 ++ z3 ++ z4
def ti137 : TI := ⟨.struct [(0, 23), (32, 39), (64, 39), (96, 3), (97, 4)], 98, 112, z137⟩
/- 154 -/
def z154 : List LVal := repL 5 z152
def ti154 : TI := ⟨.arr 5 152, 10, 80, z154⟩
/- 158 -/
def z158 : List LVal := z107 ++ z107
def ti158 : TI := ⟨.struct [(0, 107), (16, 107)], 32, 256, z158⟩
/- 159 -/
def z159 : List LVal := z107 ++ z107
def ti159 : TI := ⟨.struct [(0, 107), (16, 107)], 32, 256, z159⟩
/- 187 -/
def z187 : List LVal := z4 ++ z185 ++ z185 ++ z186 ++ z131 ++ z3
def ti187 : TI := ⟨.struct [(0, 4), (1, 185), (3, 185), (5, 186), (8, 131), (24, 3)], 25, 88, z187⟩
/- 188 -/
def z188 : List LVal := z4 ++ z185 ++ z185 ++ z186 ++ z131 ++ z3
def ti188 : TI := ⟨.struct [(0, 4), (1, 185), (3, 185), (5, 186), (8, 131), (24, 3)], 25, 88, z188⟩
/- 199 -/
def z199 : List LVal := repL 8 z198
def ti199 : TI := ⟨.arr 8 198, 32, 256, z199⟩
/- 212 -/
def z212 : List LVal := z3 ++ z210 ++ z164 ++ z3 ++ z30
def ti212 : TI := ⟨.struct [(0, 3), (1, 210), (9, 164), (73, 3), (74, 30)], 75, 120, z212⟩
/- 213 -/
def z213 : List LVal := z3 ++ z210 ++ z164 ++ z3 ++ z30
def ti213 : TI := ⟨.struct [(0, 3), (1, 210), (9, 164), (73, 3), (74, 30)], 75, 120, z213⟩
/- 117 -/
def z117 : List LVal := z33 ++ z33
def ti117 : TI := ⟨.struct [(0, 33), (5, 33)], 10, 80, z117⟩
/- 118 -/
def z118 : List LVal := z33 ++ z33
def ti118 : TI := ⟨.struct [(0, 33), (5, 33)], 10, 80, z118⟩
/- 139 -/
def z139 : List LVal := z137 ++ z3 ++ z4 ++ z39 ++ z39 ++ z39 ++ z138 ++ z39 ++ z3
def ti139 : TI := ⟨.struct [(0, 137), (98, 3), (99, 4), (100, 39), (132, 39), (164, 39), (196, 138), (197, 39), (229, 3)], 230, 272, z139⟩
/- 140 -/
def z140 : List LVal := z137 ++ z3 ++ z4 ++ z39 ++ z39 ++ z39 ++ z138 ++ z39 ++ z3
def ti140 : TI := ⟨.struct [(0, 137), (98, 3), (99, 4), (100, 39), (132, 39), (164, 39), (196, 138), (197, 39), (229, 3)], 230, 272, z140⟩
def tabL : List (Nat × TI) := [(1, ti1), (2, ti2), (3, ti3), (4, ti4), (5, ti5), (6, ti6), (9, ti9), (10, ti10), (11, ti11), (12, ti12), (15, ti15), (16, ti16), (17, ti17), (21, ti21), (22, ti22), (24, ti24), (25, ti25), (26, ti26), (27, ti27), (28, ti28), (29, ti29), (30, ti30), (34, ti34), (35, ti35), (36, ti36), (37, ti37), (38, ti38), (40, ti40), (41, ti41), (42, ti42), (43, ti43), (44, ti44), (45, ti45), (46, ti46), (47, ti47), (48, ti48), (49, ti49), (50, ti50), (51, ti51), (53, ti53), (54, ti54), (55, ti55), (56, ti56), (57, ti57), (58, ti58), (59, ti59), (60, ti60), (61, ti61), (62, ti62), (63, ti63), (64, ti64), (67, ti67), (68, ti68), (69, ti69), (70, ti70), (71, ti71), (72, ti72), (73, ti73), (80, ti80), (81, ti81), (86, ti86), (90, ti90), (91, ti91), (93, ti93), (94, ti94), (96, ti96), (97, ti97), (98, ti98), (99, ti99), (100, ti100), (101, ti101), (103, ti103), (104, ti104), (105, ti105), (108, ti108), (109, ti109), (110, ti110), (111, ti111), (112, ti112), (113, ti113), (115, ti115), (116, ti116), (119, ti119), (120, ti120), (121, ti121), (123, ti123), (124, ti124), (127, ti127), (128, ti128), (129, ti129), (130, ti130), (132, ti132), (133, ti133), (135, ti135), (138, ti138), (141, ti141), (142, ti142), (144, ti144), (145, ti145), (146, ti146), (148, ti148), (149, ti149), (150, ti150), (153, ti153), (156, ti156), (161, ti161), (162, ti162), (163, ti163), (165, ti165), (166, ti166), (167, ti167), (168, ti168), (169, ti169), (170, ti170), (171, ti171), (172, ti172), (173, ti173), (174, ti174), (175, ti175), (176, ti176), (177, ti177), (178, ti178), (180, ti180), (181, ti181), (182, ti182), (183, ti183), (184, ti184), (189, ti189), (190, ti190), (192, ti192), (193, ti193), (194, ti194), (195, ti195), (196, ti196), (197, ti197), (200, ti200), (202, ti202), (204, ti204), (205, ti205), (206, ti206), (207, ti207), (209, ti209), (211, ti211), (214, ti214), (216, ti216), (218, ti218), (220, ti220), (221, ti221), (222, ti222), (223, ti223), (224, ti224), (230, ti230), (231, ti231), (232, ti232), (233, ti233), (234, ti234), (235, ti235), (7, ti7), (8, ti8), (13, ti13), (14, ti14), (18, ti18), (19, ti19), (23, ti23), (31, ti31), (39, ti39), (65, ti65), (74, ti74), (75, ti75), (77, ti77), (78, ti78), (106, ti106), (107, ti107), (131, ti131), (151, ti151), (152, ti152), (157, ti157), (164, ti164), (179, ti179), (185, ti185), (186, ti186), (198, ti198), (201, ti201), (203, ti203), (208, ti208), (210, ti210), (217, ti217), (219, ti219), (225, ti225), (226, ti226), (236, ti236), (237, ti237), (32, ti32), (33, ti33), (76, ti76), (82, ti82), (83, ti83), (84, ti84), (85, ti85), (87, ti87), (88, ti88), (125, ti125), (126, ti126), (136, ti136), (137, ti137), (154, ti154), (158, ti158), (159, ti159), (187, ti187), (188, ti188), (199, ti199), (212, ti212), (213, ti213), (117, ti117), (118, ti118), (139, ti139), (140, ti140)]
end Go.LE

/- The local evaluator, part B: operations, regions, code and calls. -/
namespace Go.LE

def St.zero (E : Env) (t : TypeId) : Option (List LVal) := match E.tt.get t with
  | some i => some i.zero
  | none => none

/-- A value without its cells' count: an array or a struct is its cells, all else one cell. -/
def ofCells (i : TI) (cs : List LVal) : Option LVal :=
  match i.agg with
  | true => some (.agg cs)
  | false => match cs with
    | [v] => some v
    | _ => none

def newEff (st : St) (b : Blk) (v : LVal) : Tree Eff := .done ⟨v, [⟨st.nid, some b⟩], [st.nid], 1⟩

def newCells (st : St) (l : List LVal) : Tree Eff :=
  match allOne l with
  | true => newEff st (.new l) (.ptr st.nid (.lit 0))
  | false => .fail 100

def fieldV (E : Env) (t : TypeId) (x : LVal) (f : Nat) : Tree Eff :=
  match x, E.tt.get t with
  | .agg cs, some ⟨.struct fs, _, _, _⟩ => match nth f fs with
    | some (o, ft) => match E.tt.get ft with
      | some i => match takeL i.size (dropL o cs) with
        | some r => match ofCells i r with
          | some v => eff0 v
          | none => .fail 101
        | none => .fail 102
      | none => .fail 103
    | none => .fail 104
  | _, _ => .fail 105

def fieldAddrV (E : Env) (t : TypeId) (x : LVal) (f : Nat) : Tree Eff :=
  match x, E.tt.get t with
  | .ptr id off, some ⟨.struct fs, _, _, _⟩ => match nth f fs with
    | some (o, ft) => match E.size ft with
      | some (_ + 1) => eff0 (.ptr id (off.add (.lit o)))
      | _ => .fail 106
    | none => .fail 107
  | _, _ => .fail 108

def indexAddrV (E : Env) (t : TypeId) (x i : LVal) : Tree Eff :=
  match x, i, E.tt.get t with
  | .ptr id off, .int _ n, some ⟨.arr len e, _, _, _⟩ => match E.size e with
    | some s => nonneg n (leN (n.toNN.add (.lit 1)) (.lit len) (eff0 (.ptr id (off.add (n.toNN.mulc s)))))
    | none => .fail 109
  | .slice id off len _, .int _ n, some ⟨.slice e, _, _, _⟩ => match E.size e with
    | some s => nonneg n (leN (n.toNN.add (.lit 1)) len (eff0 (.ptr id (off.add (n.toNN.mulc s)))))
    | none => .fail 110
  | .cut id off l len, .int _ n, some ⟨.slice e, _, _, _⟩ => match E.size e with
    | some 1 => nonneg n (leN (n.toNN.add (.lit 1)) len (eff0 (.ptr id ((off.add l).add n.toNN))))
    | _ => .fail 110
  | _, _, _ => .fail 111

def indexV (E : Env) (t : TypeId) (x i : LVal) : Tree Eff :=
  match x, i, E.tt.get t with
  | .agg cs, .int _ (.lit n), some ⟨.arr len e, _, _, _⟩ => match E.tt.get e with
    | some ei => nonneg (.lit n) (leN (.lit (n.toNat + 1)) (.lit len) (match takeL ei.size (dropL (n.toNat * ei.size) cs) with
      | some r => match ofCells ei r with
        | some v => eff0 v
        | none => .fail 112
      | none => .fail 113))
    | none => .fail 114
  | _, _, _ => .fail 115

def convV (E : Env) (st : St) (src dst : TypeId) (x : LVal) : Tree Eff :=
  match E.tt.get src, E.tt.get dst, x with
  | some ⟨.int _, _, _, _⟩, some ⟨.int k, _, _, _⟩, .int _ (.lit n) => eff0 (.int k (.lit (wrapK k n)))
  | some ⟨.int _, _, _, _⟩, some ⟨.int k, _, _, _⟩, .int _ (.sym n) => eff0 (.int k (.sym (k.wrap n)))
  | some ⟨.slice _, _, _, _⟩, some ⟨.slice e, _, _, _⟩, .slice id off len cap => match Nat.beq src dst, E.tt.get e, st.hp.get id with
    | true, some ⟨.int .u8, _, _, _⟩, some b => match b.own, b.nils || b.nil with
      | true, false => .done ⟨.slice id off len cap, [⟨id, some b⟩], [id], 0⟩
      | _, _ => .fail 116
    | _, _, _ => .fail 117
  | some ⟨.slice _, _, _, _⟩, some ⟨.str, _, _, _⟩, .slice id off len _ => match E.tt.get src with
    | some ⟨.slice e, _, _, _⟩ => match E.tt.get e, st.hp.get id with
      | some ⟨.int .u8, _, _, _⟩, some b => (elsOf b off len).bind fun es => match (match es with | .vals l => LVal.intsOf .u8 l | .ints k l => match decide (k = IntKind.u8) with | true => some l | false => none) with
        | some l => .done ⟨.raw (.string ⟨(l.map fun n => UInt8.ofNat n.toNat).toArray⟩), [], [id], 0⟩
        | none => .fail 118
      | _, _ => .fail 119
    | _ => .fail 120
  | some ⟨.str, _, _, _⟩, some ⟨.slice e, _, _, _⟩, .raw (.string s) => match E.tt.get e with
    | some ⟨.int .u8, _, _, _⟩ => newEff st ⟨true, false, false, none, .ints .u8 (s.data.toList.map fun b => (b.toNat : Int))⟩ (.slice st.nid (.lit 0) (.lit s.size) none)
    | _ => .fail 121
  | _, _, _ => .fail 122

/-- A slice's array, as far as it is asked for. -/
def toArrV (E : Env) (t : TypeId) (x : LVal) : Tree Eff :=
  match x, E.tt.get t with
  | .slice id off len _, some ⟨.arr n _, _, _, _⟩ => match n with
    | 0 => .fail 123
    | n + 1 => leN (.lit (n + 1)) len (eff0 (.ptr id off))
  | _, _ => .fail 124

def makeV (E : Env) (st : St) (t : TypeId) (l c : LVal) : Tree Eff :=
  match E.tt.get t, l, c with
  | some ⟨.slice e, _, _, _⟩, .int .i64 n, .int .i64 m => match E.tt.get e with
    | some ⟨.int k, 1, bytes, [.int k' (.lit 0)]⟩ => match decide (k = k') && Nat.ble 1 bytes with
      | true => nonneg n (nonneg m (leN n.toNN m.toNN (leN (m.toNN.mulc bytes) (.lit 140737488355328)
        (newEff st ⟨true, false, false, some m.toNN, match m with
          | .lit q => .cells (repL q.toNat [.int k (.lit 0)])
          | .sym q => .ints k (List.replicate q.toNat 0)⟩ (.slice st.nid (.lit 0) n.toNN (some m.toNN))))))
      | false => .fail 163
    | _ => .fail 125
  | _, _, _ => .fail 126

def minL (a b : LN) : LN :=
  match a, b with
  | .lit x, .lit y => .lit (if y < x then y else x)
  | a, b => a.on fun a => b.on fun b => .sym (if b < a then b else a)

def lenV (E : Env) (t : TypeId) (x : LVal) : Tree Eff :=
  match E.tt.get t, x with
  | some ⟨.slice _, _, _, _⟩, .slice _ _ len _ => eff0 (.int .i64 len.toLN)
  | some ⟨.slice _, _, _, _⟩, .cut _ _ _ len => eff0 (.int .i64 len.toLN)
  | some ⟨.slice _, _, _, _⟩, .nils => eff0 (.int .i64 (.lit 0))
  | some ⟨.str, _, _, _⟩, .raw (.string s) => eff0 (.int .i64 (.sym s.size))
  | some ⟨.arr n _, _, _, _⟩, _ => eff0 (.int .i64 (.lit (Int.ofNat n)))
  | some ⟨.ptr e, _, _, _⟩, _ => match E.tt.get e with
    | some ⟨.arr n _, _, _, _⟩ => eff0 (.int .i64 (.lit (Int.ofNat n)))
    | _ => .fail 127
  | _, _ => .fail 128

def capV (E : Env) (t : TypeId) (x : LVal) : Tree Eff :=
  match E.tt.get t, x with
  | some ⟨.slice _, _, _, _⟩, .slice _ _ _ (some c) => eff0 (.int .i64 c.toLN)
  | some ⟨.slice _, _, _, _⟩, .nils => eff0 (.int .i64 (.lit 0))
  | _, _ => .fail 129

def builtinV (E : Env) (st : St) (b : Builtin) (ts : List TypeId) (vs : List LVal) : Tree Eff :=
  match b, ts, vs with
  | .append, [t, u], [s, x] => match E.tt.get u with
    | some ⟨.slice _, _, _, _⟩ => appendV E st t s x
    | _ => .fail 134
  | .copy, [t, _], [d, x] => copyV E st t d x
  | .len, t :: _, [x] => lenV E t x
  | .cap, t :: _, [x] => capV E t x
  | .min, _, [.int k a, .int _ c] => eff0 (.int k (minL a c))
  | _, _, _ => .fail 136

structure EnvX extends Env where
  ext : Trie (List LVal → Tree LVal)

def St.look (st : St) (ids : List Nat) (id : Nat) : Option Blk :=
  match ids.any (Nat.beq id) with
  | true => st.hp.get id
  | false => none

def wrOf (l : List (Nat × Blk)) : List HWr := l.map fun p => ⟨p.1, some p.2⟩

def callV (E : EnvX) (st : St) (f : FuncId) (args : List LVal) : Tree Eff :=
  match E.orc.get f with
  | some q => (q.run args (st.look (q.acc args)) st.nid).bind fun r => .done ⟨r.val, wrOf r.wr, q.acc args ++ r.wr.map (fun p => p.1), r.cnt⟩
  | none => match E.ext.get f with
    | some g => (g args).bind fun v => eff0 v
    | none => .fail (1000 + f)

/-- The function that a call calls, and its arguments. -/
def calleeOf (st : St) (c : Call) : Option (FuncId × List LVal) :=
  match c.callee with
  | .value x => match st.oval x, ovals st c.args.toList with
    | some (.func (.func f) first cap), some vs => some (f, first ++ vs ++ cap)
    | _, _ => none
  | _ => none

/-- A comparison of a slice with nil looks at the slice's block. -/
def nilAcc (a b : LVal) : List Acc :=
  match a, b with
  | .slice id _ _ _, .nils => [id]
  | _, _ => []

def opt (x : Option LVal) (k : LVal → Tree Eff) : Tree Eff :=
  match x with
  | some v => k v
  | none => .fail 137

def optO (st : St) (x : Option Operand) (k : Option LVal → Tree Eff) : Tree Eff :=
  match x with
  | none => k none
  | some o => match st.oval o with
    | some v => k (some v)
    | none => .fail 138

def lop (E : EnvX) (st : St) (o : Oper) : Tree Eff :=
  match o.op with
  | .move x => opt (st.oval x) eff0
  | .assign x => opt (st.oval x) eff0
  | .pick c a b => match st.oval c with
    | some (.bool false true) => opt (st.oval a) eff0
    | some (.bool false false) => opt (st.oval b) eff0
    | some (.bool true c) => .ite c (opt (st.oval a) eff0) (opt (st.oval b) eff0)
    | _ => .fail 139
  | .alloc t => match E.tt.get t with
    | some i => newCells st i.zero
    | none => .fail 140
  | .box _ x => opt (st.oval x) fun v => newCells st v.cells
  | .build t ps => match pvals st ps.toList with
    | some l => (buildV E.toEnv t l).bind eff0
    | none => .fail 141
  | .buildSlice t n ps => match E.tt.get t, pvals st ps.toList with
    | some ⟨.slice e, _, _, _⟩, some l => match E.tt.get e with
      | some i => (match i.size with
        | 0 => .fail 142
        | s + 1 => (fillL (fun j => some (j * (s + 1), s + 1)) (repL n i.zero) l).bind fun cs => match allOne cs, Nat.ble (n * (s + 1)) 16777216 with
          | true, true => newEff st (.new cs) (.slice st.nid (.lit 0) (.lit n) (some (.lit n)))
          | _, _ => .fail 143)
      | none => .fail 144
    | _, _ => .fail 145
  | .load t a => opt (st.oval a) fun p => loadV E.toEnv st t p
  | .store t a x => opt (st.oval a) fun p => opt (st.oval x) fun v => storeV E.toEnv st t p v
  | .nilCheck x => opt (st.oval x) fun v => match v with
    | .ptr _ _ => eff0 v
    | .func (.func _) _ _ => eff0 v
    | _ => .fail 146
  | .binOp op t x y _ => opt (st.oval x) fun a => opt (st.oval y) fun b => (binV E.toEnv st op t a b).bind fun v => .done ⟨v, [], nilAcc a b, 0⟩
  | .unOp op _ x => opt (st.oval x) fun v => (unV op v).bind eff0
  | .convert s d x => opt (st.oval x) fun v => convV E.toEnv st s d v
  | .sliceToArrayPointer t x => opt (st.oval x) fun v => toArrV E.toEnv t v
  | .makeFunc (.func f) first cap => match ovals st first.toList, ovals st cap.toList with
    | some a, some b => eff0 (.func (.func f) a b)
    | _, _ => .fail 147
  | .makeSlice t l c => opt (st.oval l) fun a => opt (st.oval c) fun b => makeV E.toEnv st t a b
  | .slice t x lo hi mx => opt (st.oval x) fun v => optO st lo fun a => optO st hi fun b => optO st mx fun c => sliceV E.toEnv t v a b c
  | .fieldAddr t x f => opt (st.oval x) fun v => fieldAddrV E.toEnv t v f
  | .field t x f => opt (st.oval x) fun v => fieldV E.toEnv t v f
  | .indexAddr t x i => opt (st.oval x) fun v => opt (st.oval i) fun n => indexAddrV E.toEnv t v n
  | .index t x i => opt (st.oval x) fun v => opt (st.oval i) fun n => indexV E.toEnv t v n
  | .extract x i => opt (st.oval x) fun v => match v with
    | .tup vs => opt (nth i vs) eff0
    | _ => .fail 148
  | .call c => match c.callee with
    | .builtin b => match ovals st c.args.toList with
      | some vs => builtinV E.toEnv st b c.argTypes.toList vs
      | none => .fail 149
    | _ => match calleeOf st c with
      | some (f, vs) => callV E st f vs
      | none => .fail 150
  | _ => .fail 151

def St.put (st : St) (d : Option Nat) (v : LVal) : Tree St :=
  match st, d with
  | st, none => .done st
  | ⟨sl, n, hp, k⟩, some t => match Nat.blt t n with
    | true => .done ⟨sl.put t v, n, hp, k⟩
    | false => .fail 152

def hpApp (h : Trie Blk) : List HWr → Trie Blk
  | [] => h
  | ⟨id, some b⟩ :: l => hpApp (h.put id b) l
  | ⟨id, none⟩ :: l => hpApp (h.del id) l

/-- The state with some blocks written and some numbers taken. -/
def St.upd (st : St) (wr : List HWr) (cnt : Nat) : St :=
  match st, wr, cnt with
  | st, [], 0 => st
  | ⟨sl, n, hp, k⟩, wr, 0 => ⟨sl, n, hpApp hp wr, k⟩
  | ⟨sl, n, hp, k⟩, wr, c + 1 => ⟨sl, n, hpApp hp wr, k + (c + 1)⟩

def St.app (st : St) (d : Option Nat) (e : Eff) : Tree St := (st.upd e.wr e.cnt).put d e.val

/-- A value that decides what else is carried out is decided at once. -/
def forked {α : Type} (g : Bool) (e : Eff) (k : Eff → Tree α) : Tree α :=
  match g, e.val with
  | true, .bool true c => .ite c (k { e with val := .bool false true }) (k { e with val := .bool false false })
  | _, _ => k e

/-- Is an operation carried out? -/
def wantedL (ops : List Oper) (st : St) (o : Oper) : Option Bool :=
  match o.guard with
  | none => some true
  | some (j, want) => match nth j ops with
    | some q => match q.dst with
      | some t => match st.sl.get t with
        | some (.bool false b) => some (b == want)
        | some (.raw (.tuple _)) => some false
        | _ => none
      | none => none
    | none => none

def isSrc (ops : List Oper) (i : Nat) : Bool := ops.any fun o => match o.guard with
  | some (j, _) => Nat.beq i j
  | none => false

/-- Does an operation call a function whose body is to be followed? -/
def inl (E : EnvX) (st : St) (o : Oper) : Option ((Func × Bool) × List LVal) :=
  match o.op with
  | .call c => match c.callee with
    | .value _ => match calleeOf st c with
      | some (f, vs) => match E.fns.get f with
        | some fn => some (fn, vs)
        | none => none
      | none => none
    | _ => none
  | _ => none

def putArgs : List LVal → Nat → Trie LVal → Trie LVal
  | [], _, t => t
  | v :: l, i, t => putArgs l (i + 1) (t.put i v)

def resVals (E : Env) (st : St) : List ResultVar → Tree (List LVal)
  | [] => .done []
  | .tmp t :: l => match st.sl.get t with
    | some v => (resVals E st l).bind fun r => .done (v :: r)
    | none => .fail 153
  | .cell a t :: l => match st.sl.get a with
    | some p => (loadV E st t p).bind fun e => (resVals E st l).bind fun r => .done (e.val :: r)
    | none => .fail 154

def packRes : List LVal → LVal
  | [v] => v
  | l => .tup l

/-- A call whose body is followed: the value, and the state behind it. -/
def evalFn (E : EnvX) (ih : Code → St → Tree (LX × St)) (fn : Func) (args : List LVal) (st : St) : Tree (LVal × St) :=
  match fn.body, Nat.ble args.length fn.ntmps with
  | some c, true => (ih c { sl := putArgs args 0 .leaf, nsl := fn.ntmps, hp := st.hp, nid := st.nid }).bind fun r => match r.1 with
    | .ex _ => .fail 155
    | _ => (resVals E.toEnv r.2 fn.results.toList).bind fun vs => .done (packRes vs, { st with hp := r.2.hp, nid := r.2.nid })
  | _, _ => .fail 156

/- The block numbers in a value. -/
mutual
def idsV : LVal → List Nat
  | .ptr id _ => [id]
  | .slice id _ _ _ => [id]
  | .cut id _ _ _ => [id]
  | .func _ a b => idsL a ++ idsL b
  | .agg l => idsL l
  | .tup l => idsL l
  | _ => []
def idsL : List LVal → List Nat
  | [] => []
  | v :: l => idsV v ++ idsL l
end

def idsC : Cont → List Nat
  | .cells l => idsL l
  | .ints _ _ => []
  | .win _ l => idsL l
  | .seg _ _ _ => []
  | .arr _ _ _ => []

def hasId (l : List Nat) (id : Nat) : Bool := l.any (Nat.beq id)

/-- All blocks that can be reached from some. -/
def reach (h : Trie Blk) : Nat → List Nat → List Nat → List Nat
  | 0, _, seen => seen
  | _ + 1, [], seen => seen
  | n + 1, id :: l, seen => match hasId seen id with
    | true => reach h n l seen
    | false => match h.get id with
      | some b => reach h n (idsC b.cont ++ l) (id :: seen)
      | none => reach h n l seen

/-- Some blocks alone; if the first word is false, none of them may be written. -/
def restrict (w : Bool) (h : Trie Blk) : List Nat → Trie Blk → Trie Blk
  | [], r => r
  | id :: l, r => match h.get id with
    | some b => restrict w h l (r.put id { b with own := b.own && w })
    | none => restrict w h l r

def newWr (h : Trie Blk) : Nat → Nat → List HWr
  | 0, _ => []
  | n + 1, id => match h.get id with
    | some b => ⟨id, some b⟩ :: newWr h n (id + 1)
    | none => newWr h n (id + 1)

/-- All block numbers that are named are old ones. -/
def belowAll (st : St) (ids : List Nat) (vs : List LVal) : Bool :=
  (idsL vs).all (fun i => Nat.blt i st.nid) && ids.all fun id => match st.hp.get id with
    | some b => (idsC b.cont).all fun i => Nat.blt i st.nid
    | none => false

def allOwn (l : List HWr) : Bool := l.all fun h => match h.blk with
  | some b => b.own
  | none => true

/-- A call whose body is followed, over the blocks alone that it can reach. -/
def inlEff (E : EnvX) (ih : Code → St → Tree (LX × St)) (fn : Func × Bool) (vs : List LVal) (st : St) : Tree Eff :=
  match reach st.hp 200 (idsL vs) [] with
  | ids => match belowAll st ids vs with
    | false => .fail 164
    | true => (evalFn E ih fn.1 vs { st with hp := restrict fn.2 st.hp ids .leaf }).bind fun r => match fn.2 with
      | false => match idsV r.1 with
        | [] => .done ⟨r.1, [], ids, r.2.nid - st.nid⟩
        | _ => match newWr r.2.hp (r.2.nid - st.nid) st.nid with
          | wr => match allOwn wr with
            | true => .done ⟨r.1, wr, ids ++ wr.map (fun h => h.id), r.2.nid - st.nid⟩
            | false => .fail 165
      | true => match newWr r.2.hp (r.2.nid - st.nid) st.nid with
        | wr => match allOwn wr with
          | true => match ids.map (fun id => ⟨id, r.2.hp.get id⟩) ++ wr with
            | wr => .done ⟨r.1, wr, ids ++ wr.map (fun h => h.id), r.2.nid - st.nid⟩
          | false => .fail 165

/-- One operation of a region that is gone through in the text's order. -/
def opStep (E : EnvX) (ih : Code → St → Tree (LX × St)) (ops : List Oper) (i : Nat) (o : Oper) (st : St) : Tree St :=
  match wantedL ops st o with
  | some false => st.put o.dst noVal
  | some true => match inl E st o with
    | some (fn, vs) => (evalFn E ih fn.1 vs st).bind fun r => forked (isSrc ops i) ⟨r.1, [], [], 0⟩ fun e => r.2.put o.dst e.val
    | none => (lop E st o).bind fun e => forked (isSrc ops i) e fun e => st.app o.dst e
  | none => .fail 157

def seqOps (E : EnvX) (ih : Code → St → Tree (LX × St)) (ops : List Oper) : Nat → List Oper → St → Tree St
  | _, [], st => .done st
  | i, o :: l, st => (opStep E ih ops i o st).bind fun r => seqOps E ih ops (i + 1) l r

/- Regions that draw their order. -/

def edges (o : Oper) : List Nat := o.after.toList.filterMap fun e => match Region.binds .any e with
  | true => some e.on
  | false => none

def nthD (i : Nat) (l : List Nat) : Nat := (nth i l).getD 0

def mask (acc : List Nat) : List Nat → Nat → Nat
  | [], s => s
  | e :: l, s => mask acc l (s ||| 2 ^ e ||| nthD e acc)

def masks : List Oper → List Nat → List Nat
  | [], acc => acc
  | o :: l, acc => masks l (acc ++ [mask acc (edges o) 0])

def bef (ms : List Nat) (i j : Nat) : Bool := (nthD j ms).testBit i

def slotsOf (ops : List Oper) (o : Oper) : List Nat :=
  (o.op.operands.toList.filterMap fun x => match x with
    | .tmp t => some t
    | _ => none) ++
  (match o.guard with
    | some (g, _) => match nth g ops with
      | some q => q.dst.toList
      | none => []
    | none => [])

def hasS (d : Option Nat) (l : List Nat) : Bool := match d with
  | some t => l.any (Nat.beq t)
  | none => false

/-- May two operations, in the text's order, be exchanged as far as their slots go? -/
def slotApart (ops : List Oper) (x y : Oper) : Bool :=
  !(hasS x.dst (slotsOf ops y)) && !(hasS y.dst (slotsOf ops x)) && !(hasS x.dst y.dst.toList)

def slotsRow (ops : List Oper) (ms : List Nat) (j : Nat) (y : Oper) : Nat → List Oper → Bool
  | _, [] => true
  | i, x :: l => (match Nat.blt i j with
    | true => bef ms i j || slotApart ops x y
    | false => true) && slotsRow ops ms j y (i + 1) l

def slotsAll (ops : List Oper) (ms : List Nat) : Nat → List Oper → Bool
  | _, [] => true
  | j, y :: l => slotsRow ops ms j y 0 ops && slotsAll ops ms (j + 1) l

/-- Edges go back, guards wait for what they ask. -/
def shapeOk (ops : List Oper) : Nat → List Oper → Bool
  | _, [] => true
  | j, o :: l => (edges o).all (fun e => Nat.blt e j) && shapeOk ops (j + 1) l

def slotsOk (ops : List Oper) : Bool := slotsAll ops (masks ops []) 0 ops && shapeOk ops 0 ops

def hits (wr : List HWr) (acc : List Acc) : Bool := wr.any fun h => acc.any fun a => Nat.beq h.id a

def wrAcc (wr : List HWr) : List Acc := wr.map fun h => h.id

def confl (x y : List HWr × List Acc) : Bool := hits x.1 (wrAcc y.1 ++ y.2) || hits y.1 (wrAcc x.1 ++ x.2)

def heapRow (ms : List Nat) (j : Nat) (y : List HWr × List Acc) : List (Nat × (List HWr × List Acc)) → Bool
  | [] => true
  | (i, x) :: l => (bef ms i j || !(confl x y)) && heapRow ms j y l

/-- What one operation of a region does; one that is not carried out does nothing. -/
def opEff (E : EnvX) (ih : Code → St → Tree (LX × St)) (ops : List Oper) (i : Nat) (o : Oper) (st : St) (k : Eff → Tree St) : Tree St :=
  match wantedL ops st o with
  | some false => k ⟨noVal, [], [], 0⟩
  | some true => match inl E st o with
    | some (fn, vs) => (inlEff E ih fn vs st).bind fun e => forked (isSrc ops i) e k
    | none => (lop E st o).bind fun e => forked (isSrc ops i) e k
  | none => .fail 162

/-- What is written are old blocks, or new ones of this operation. -/
def lowOk (st : St) (e : Eff) : Bool := e.wr.all fun h => Nat.blt h.id (st.nid + e.cnt)

def seenAdd (i : Nat) (e : Eff) (seen : List (Nat × (List HWr × List Acc))) : List (Nat × (List HWr × List Acc)) :=
  match e.wr, e.acc with
  | [], [] => seen
  | w, a => (i, (w, a)) :: seen

/-- A region that draws its order, in the text's order: what comes later must wait for what it meets. -/
def drawOps (E : EnvX) (ih : Code → St → Tree (LX × St)) (ops : List Oper) (ms : List Nat) : Nat → List Oper → List (Nat × (List HWr × List Acc)) → St → Tree St
  | _, [], _, st => .done st
  | i, o :: l, seen, st => opEff E ih ops i o st fun e => match heapRow ms i (e.wr, e.acc) seen && lowOk st e with
    | true => (st.app o.dst e).bind fun s => drawOps E ih ops ms (i + 1) l (seenAdd i e seen) s
    | false => .fail (2000 + i)

def region (E : EnvX) (ih : Code → St → Tree (LX × St)) (ops : List Oper) (draw : Bool) (st : St) : Tree St :=
  match draw with
  | false => seqOps E ih ops 0 ops st
  | true => match slotsOk ops with
    | true => drawOps E ih ops (masks ops []) 0 ops [] st
    | false => .fail 158

def firstR : Code → Nat
  | .region id _ _ => id
  | .seq a _ => firstR a
  | .block _ c => firstR c
  | .scope c => firstR c
  | .loop c => firstR c
  | _ => 0

def findLp (k : Nat) : List (Nat × Code × (St → Tree (LX × St))) → Option (Code × (St → Tree (LX × St)))
  | [] => none
  | (n, r) :: l => match Nat.beq n k with
    | true => some r
    | false => findLp k l

def leval (E : EnvX) : Nat → Code → St → Tree (LX × St)
  | 0, _, _ => .fail 159
  | n + 1, c, st => match c with
    | .skip => .done (.nrm, st)
    | .region _ ops d => (region E (leval E n) ops.toList d st).bind fun s => .done (.nrm, s)
    | .seq a b => (leval E n a st).bind fun r => match r.1 with
      | .nrm => leval E n b r.2
      | _ => .done r
    | .cond x a b => match st.oval x with
      | some (.bool false true) => leval E n a st
      | some (.bool false false) => leval E n b st
      | some (.bool true v) => .ite v (leval E n a st) (leval E n b st)
      | _ => .fail 160
    | .block id b => (leval E n b st).bind fun r => match r.1 with
      | .ex i => match Nat.beq i id with
        | true => .done (.nrm, r.2)
        | false => .done r
      | _ => .done r
    | .loop b => match findLp (firstR b) E.lps with
      | some (c', f) => .need (Code.loop b = c') (f st)
      | none => (leval E n b st).bind fun r => match r.1 with
        | .nrm => leval E n (.loop b) r.2
        | _ => .done r
    | .exit id => .done (.ex id, st)
    | .scope b => leval E n b st
    | .ret => .done (.ret, st)
    | _ => .fail 161

end Go.LE

/- The local evaluator, part C: what a state says of the model's world. -/
namespace Go.LE

/- Tries. -/

theorem Trie.get_leaf {α : Type} (n : Nat) : (Trie.leaf : Trie α).get n = none := rfl

theorem Trie.get_zero {α : Type} (v : Option α) (l r : Trie α) : (Trie.node v l r).get 0 = v := rfl

theorem Trie.get_succ {α : Type} (v : Option α) (l r : Trie α) (m : Nat) :
    (Trie.node v l r).get (m + 1) = if m % 2 = 0 then l.get (m / 2) else r.get (m / 2) := by
  simp only [Trie.get]
  rcases Nat.mod_two_eq_zero_or_one m with h | h <;> rw [h] <;> rfl

theorem Trie.get_putF {α : Type} (x : Option α) : ∀ (d n : Nat) (t : Trie α) (m : Nat), n < d → (t.putF x d n).get m = if m = n then x else t.get m
  | 0, _, _, _, h => absurd h (Nat.not_lt_zero _)
  | d + 1, 0, t, m, _ => by
    cases t <;> cases m <;> simp [Trie.putF, Trie.get_zero, Trie.get_succ, Trie.get_leaf]
  | d + 1, n + 1, t, m, h => by
    have ih := fun t' m' => Trie.get_putF x d (n / 2) t' m' (by omega)
    have hb : ∀ q : Nat, Nat.beq (q % 2) 0 = decide (q % 2 = 0) := fun q => by
      rcases Nat.mod_two_eq_zero_or_one q with h | h <;> rw [h] <;> rfl
    cases t with
    | leaf =>
      simp only [Trie.putF, hb]
      by_cases hp : n % 2 = 0
      · simp only [hp, decide_true]
        cases m with
        | zero => simp [Trie.get_zero, Trie.get_leaf]
        | succ m =>
          simp only [Trie.get_succ, ih, Trie.get_leaf]
          by_cases hm : m % 2 = 0
          · simp only [hm, if_true]
            by_cases he : m / 2 = n / 2
            · simp only [he, if_true]; rw [if_pos (by omega)]
            · simp only [he, if_false]; rw [if_neg (by omega)]
          · simp only [hm, if_false]; rw [if_neg (by omega)]
      · simp only [hp, decide_false]
        cases m with
        | zero => simp [Trie.get_zero, Trie.get_leaf]
        | succ m =>
          simp only [Trie.get_succ, ih, Trie.get_leaf]
          by_cases hm : m % 2 = 0
          · simp only [hm, if_true]; rw [if_neg (by omega)]
          · simp only [hm, if_false]
            by_cases he : m / 2 = n / 2
            · simp only [he, if_true]; rw [if_pos (by omega)]
            · simp only [he, if_false]; rw [if_neg (by omega)]
    | node v l r =>
      simp only [Trie.putF, hb]
      by_cases hp : n % 2 = 0
      · simp only [hp, decide_true]
        cases m with
        | zero => simp [Trie.get_zero]
        | succ m =>
          simp only [Trie.get_succ, ih]
          by_cases hm : m % 2 = 0
          · simp only [hm, if_true]
            by_cases he : m / 2 = n / 2
            · simp only [he, if_true]; rw [if_pos (by omega)]
            · simp only [he, if_false]; rw [if_neg (by omega)]
          · simp only [hm, if_false]; rw [if_neg (by omega)]
      · simp only [hp, decide_false]
        cases m with
        | zero => simp [Trie.get_zero]
        | succ m =>
          simp only [Trie.get_succ, ih]
          by_cases hm : m % 2 = 0
          · simp only [hm, if_true]; rw [if_neg (by omega)]
          · simp only [hm, if_false]
            by_cases he : m / 2 = n / 2
            · simp only [he, if_true]; rw [if_pos (by omega)]
            · simp only [he, if_false]; rw [if_neg (by omega)]

theorem Trie.get_put {α : Type} (t : Trie α) (n : Nat) (x : α) (m : Nat) : (t.put n x).get m = if m = n then some x else t.get m :=
  Trie.get_putF _ _ _ _ _ (by omega)

theorem Trie.get_del {α : Type} (t : Trie α) (n : Nat) (m : Nat) : (t.del n).get m = if m = n then none else t.get m :=
  Trie.get_putF _ _ _ _ _ (by omega)

theorem Trie.mem_ofList {α : Type} {n : Nat} {x : α} : ∀ {l : List (Nat × α)}, (Trie.ofList l).get n = some x → (n, x) ∈ l
  | [], h => by simp [Trie.ofList, Trie.get_leaf] at h
  | (m, y) :: l, h => by
    rw [Trie.ofList, Trie.get_put] at h
    by_cases e : n = m
    · rw [if_pos e] at h
      obtain rfl := Option.some.inj h
      simp [e]
    · rw [if_neg e] at h
      exact List.mem_cons_of_mem _ (Trie.mem_ofList h)

/- Trees. -/

theorem Tree.sat_bind {α β : Type} {Q : β → Prop} {f : α → Tree β} : ∀ {x : Tree α}, (x.bind f).sat Q ↔ x.sat fun a => (f a).sat Q
  | .fail _ => Iff.rfl
  | .done _ => Iff.rfl
  | .ite c t e => by simp only [Tree.bind, Tree.sat, Tree.sat_bind (x := t), Tree.sat_bind (x := e)]
  | .need p t => by simp only [Tree.bind, Tree.sat, Tree.sat_bind (x := t)]

theorem Tree.sat_mono {α : Type} {Q Q' : α → Prop} (h : ∀ a, Q a → Q' a) : ∀ {x : Tree α}, x.sat Q → x.sat Q'
  | .fail _, hx => hx
  | .done a, hx => h a hx
  | .ite c t e, hx => ⟨fun hc => Tree.sat_mono h (hx.1 hc), fun hc => Tree.sat_mono h (hx.2 hc)⟩
  | .need p t, hx => ⟨hx.1, Tree.sat_mono h hx.2⟩

/-- The tree comes to this. -/
def Tree.res {α : Type} (x : Tree α) (a : α) : Prop := x.sat (· = a)

theorem Tree.res_of_sat {α : Type} {Q : α → Prop} : ∀ {x : Tree α}, x.sat Q → ∃ a, x.res a ∧ Q a
  | .fail _, hx => hx.elim
  | .done a, hx => ⟨a, rfl, hx⟩
  | .ite true t e, hx => by
    obtain ⟨a, h, q⟩ := Tree.res_of_sat (hx.1 rfl)
    exact ⟨a, ⟨fun _ => h, fun h => by cases h⟩, q⟩
  | .ite false t e, hx => by
    obtain ⟨a, h, q⟩ := Tree.res_of_sat (hx.2 rfl)
    exact ⟨a, ⟨(fun h => by cases h), fun _ => h⟩, q⟩
  | .need p t, hx => by
    obtain ⟨a, h, q⟩ := Tree.res_of_sat hx.2
    exact ⟨a, ⟨hx.1, h⟩, q⟩

theorem Tree.res_bind {α β : Type} {x : Tree α} {f : α → Tree β} {b : β} (h : (x.bind f).res b) : ∃ a, x.res a ∧ (f a).res b :=
  Tree.res_of_sat (Tree.sat_bind.1 h)

theorem Tree.res_done {α : Type} {a b : α} : (Tree.done a).res b ↔ a = b := Iff.rfl
theorem Tree.res_fail {α : Type} {c : Nat} {b : α} : (Tree.fail c : Tree α).res b ↔ False := Iff.rfl
theorem Tree.res_need {α : Type} {p : Prop} {t : Tree α} {b : α} : (Tree.need p t).res b ↔ p ∧ t.res b := Iff.rfl
theorem Tree.res_ite {α : Type} {c : Bool} {t e : Tree α} {b : α} : (Tree.ite c t e).res b ↔ (c = true → t.res b) ∧ (c = false → e.res b) := Iff.rfl

theorem res_leN {α : Type} {a b : NN} {t : Tree α} {x : α} (h : (leN a b t).res x) : a.v ≤ b.v ∧ t.res x := by
  unfold leN at h
  simp only [NN.on_v] at h
  split at h
  · split at h
    · rename_i hb; exact ⟨Nat.le_of_ble_eq_true hb, h⟩
    · exact h.elim
  · exact h

theorem res_eqN {α : Type} {a b : NN} {t : Tree α} {x : α} (h : (eqN a b t).res x) : a.v = b.v ∧ t.res x := by
  unfold eqN at h
  simp only [NN.on_v] at h
  split at h
  · split at h
    · rename_i hb; exact ⟨Nat.eq_of_beq_eq_true hb, h⟩
    · exact h.elim
  · exact h

theorem res_nonneg {α : Type} {a : LN} {t : Tree α} {x : α} (h : (nonneg a t).res x) : 0 ≤ a.v ∧ t.res x := by
  unfold nonneg at h
  split at h
  · exact ⟨Int.natCast_nonneg _, h⟩
  · exact h.elim
  · exact h

/- Numbers. -/

theorem wrapK_eq (k : IntKind) (n : Int) : wrapK k n = k.wrap n := by
  cases k <;> simp [wrapK, IntKind.wrap, IntKind.bits, IntKind.signed]

@[simp] theorem LN.op_v (f g : Int → Int → Int) (h : ∀ x y, f x y = g x y) (a b : LN) : (LN.op f g a b).v = g a.v b.v := by
  cases a <;> cases b <;> simp [LN.op, LN.v, h]

@[simp] theorem NN.lit_v (n : Nat) : (NN.lit n).v = n := rfl
@[simp] theorem NN.sym_v (n : Nat) : (NN.sym n).v = n := rfl
@[simp] theorem LN.lit_v (n : Int) : (LN.lit n).v = n := rfl
@[simp] theorem LN.sym_v (n : Int) : (LN.sym n).v = n := rfl
@[simp] theorem NN.add_v (a b : NN) : (a.add b).v = a.v + b.v := by cases a <;> cases b <;> rfl
@[simp] theorem NN.sub_v (a b : NN) : (a.sub b).v = a.v - b.v := by cases a <;> cases b <;> rfl
@[simp] theorem NN.mulc_v (c : Nat) (a : NN) : (a.mulc c).v = a.v * c := by cases a <;> rfl
@[simp] theorem NN.toLN_v (a : NN) : a.toLN.v = (a.v : Int) := by cases a <;> rfl
@[simp] theorem LN.toNN_v (a : LN) : a.toNN.v = a.v.toNat := by cases a <;> rfl
@[simp] theorem NN.min_v (a b : NN) : (NN.min a b).v = Nat.min a.v b.v := by cases a <;> cases b <;> rfl

/- What values mean. -/

abbrev Ren := Nat → Option (Option (Nat × Nat))

def denP (b : Option (Option (Nat × Nat))) (off : Nat) : Option Value :=
  match b with
  | some (some (b, _)) => some (.pointer (some ⟨b, off, none⟩))
  | _ => none

def denS (b : Option (Option (Nat × Nat))) (off len : Nat) (cap : Option Nat) : Option Value :=
  match b, cap with
  | some (some (b, _)), some c => some (.slice (some ⟨b, off, none⟩) len c)
  | some (some (b, C)), none => if off + len ≤ C then some (.slice (some ⟨b, off, none⟩) len (C - off)) else none
  | some none, some c => if len = 0 ∧ c = 0 then some (.slice none 0 0) else none
  | some none, none => if len = 0 then some (.slice none 0 0) else none
  | none, _ => none

/-- A slice to the end of its block, cut by l. -/
def denC (b : Option (Option (Nat × Nat))) (off l len : Nat) : Option Value :=
  match b with
  | some (some (b, C)) => if off + l + len ≤ C then some (.slice (some ⟨b, if C = off + l then off else off + l, none⟩) len (C - (off + l))) else none
  | some none => if len = 0 then some (.slice none 0 0) else none
  | none => none

mutual
def den (ρ : Ren) : LVal → Option Value
  | .int k n => some (.int k n.v)
  | .bool _ b => some (.bool b)
  | .ptr id off => denP (ρ id) off.v
  | .nilp => some (.pointer none)
  | .slice id off len cap => denS (ρ id) off.v len.v (cap.map NN.v)
  | .cut id off l len => denC (ρ id) off.v l.v len.v
  | .nils => some (.slice none 0 0)
  | .raw v => some v
  | .func fn a b => match denL ρ a, denL ρ b with
    | some x, some y => some (.func fn x.toArray y.toArray)
    | _, _ => none
  | .agg l => match denL ρ l with
    | some x => some (.agg x.toArray)
    | none => none
  | .tup l => match denL ρ l with
    | some x => some (.tuple x.toArray)
    | none => none
def denL (ρ : Ren) : List LVal → Option (List Value)
  | [] => some []
  | v :: l => match den ρ v, denL ρ l with
    | some x, some r => some (x :: r)
    | _, _ => none
end

/-- One renaming says all that another one says. -/
def Sub (ρ ρ' : Ren) : Prop := ∀ id x, ρ id = some x → ρ' id = some x

theorem Sub.refl (ρ : Ren) : Sub ρ ρ := fun _ _ h => h
theorem Sub.trans {a b c : Ren} (h : Sub a b) (k : Sub b c) : Sub a c := fun i x hx => k i x (h i x hx)

theorem denP_mono {a b : Option (Option (Nat × Nat))} (h : ∀ x, a = some x → b = some x) {o : Nat} {x : Value} (hx : denP a o = some x) : denP b o = some x := by
  cases a with
  | none => cases hx
  | some y => rw [h y rfl]; exact hx

theorem denS_mono {a b : Option (Option (Nat × Nat))} (h : ∀ x, a = some x → b = some x) {o n : Nat} {c : Option Nat} {x : Value} (hx : denS a o n c = some x) : denS b o n c = some x := by
  cases a with
  | none => cases c <;> cases hx
  | some y => rw [h y rfl]; exact hx

theorem denC_mono {a b : Option (Option (Nat × Nat))} (h : ∀ x, a = some x → b = some x) {o l n : Nat} {x : Value} (hx : denC a o l n = some x) : denC b o l n = some x := by
  cases a with
  | none => cases hx
  | some y => rw [h y rfl]; exact hx

mutual
theorem den_mono {ρ ρ' : Ren} (h : Sub ρ ρ') : ∀ {v : LVal} {x : Value}, den ρ v = some x → den ρ' v = some x
  | .int _ _, _, hx => hx
  | .bool _ _, _, hx => hx
  | .ptr id _, _, hx => by simp only [den] at hx ⊢; exact denP_mono (h id) hx
  | .nilp, _, hx => hx
  | .slice id _ _ _, _, hx => by simp only [den] at hx ⊢; exact denS_mono (h id) hx
  | .cut id _ _ _, _, hx => by simp only [den] at hx ⊢; exact denC_mono (h id) hx
  | .nils, _, hx => hx
  | .raw _, _, hx => hx
  | .func fn a b, x, hx => by
    simp only [den] at hx ⊢
    split at hx
    · rename_i u w hu hw
      rw [denL_mono h hu, denL_mono h hw]; exact hx
    · cases hx
  | .agg l, x, hx => by
    simp only [den] at hx ⊢
    split at hx
    · rename_i u hu; rw [denL_mono h hu]; exact hx
    · cases hx
  | .tup l, x, hx => by
    simp only [den] at hx ⊢
    split at hx
    · rename_i u hu; rw [denL_mono h hu]; exact hx
    · cases hx
theorem denL_mono {ρ ρ' : Ren} (h : Sub ρ ρ') : ∀ {l : List LVal} {x : List Value}, denL ρ l = some x → denL ρ' l = some x
  | [], _, hx => hx
  | v :: l, x, hx => by
    simp only [denL] at hx ⊢
    split at hx
    · rename_i u w hu hw
      rw [den_mono h hu, denL_mono h hw]; exact hx
    · cases hx
end

end Go.LE

/- The local evaluator, part D: when a state holds of a world, and how it is kept. -/
namespace Go.LE
open Go.RowKit

def contAt : Cont → Nat → Option LVal
  | .cells l, i => l[i]?
  | .ints k l, i => (l[i]?).map (symInt k)
  | .win off l, i => if off.v ≤ i then l[i - off.v]? else none
  | .seg off k l, i => if off.v ≤ i then (l[i - off.v]?).map (symInt k) else none
  | .arr k n f, i => if i < n then some (symInt k (f i)) else none

theorem arrFrom_get (k : IntKind) (f : Nat → Int) : ∀ (n o j : Nat), j < n → (arrFrom k f o n)[j]? = some (symInt k (f (o + j)))
  | 0, _, _, h => by omega
  | n + 1, o, 0, _ => rfl
  | n + 1, o, j + 1, h => by
    simp only [arrFrom, List.getElem?_cons_succ]
    rw [arrFrom_get k f n (o + 1) j (by omega), show o + 1 + j = o + (j + 1) by omega]

theorem arrFrom_length (k : IntKind) (f : Nat → Int) : ∀ (n o : Nat), (arrFrom k f o n).length = n
  | 0, _ => rfl
  | n + 1, o => by simp [arrFrom, arrFrom_length k f n (o + 1)]

theorem rangeF_get (f : Nat → Int) : ∀ (n o j : Nat), j < n → (rangeF f o n)[j]? = some (f (o + j))
  | 0, _, _, h => by omega
  | n + 1, o, 0, _ => rfl
  | n + 1, o, j + 1, h => by
    simp only [rangeF, List.getElem?_cons_succ]
    rw [rangeF_get f n (o + 1) j (by omega), show o + 1 + j = o + (j + 1) by omega]

theorem rangeF_length (f : Nat → Int) : ∀ (n o : Nat), (rangeF f o n).length = n
  | 0, _ => rfl
  | n + 1, o => by simp [rangeF, rangeF_length f n (o + 1)]

theorem updL_get : ∀ (l : List Int) (f : Nat → Int) (o i : Nat), updL f o l i = if h : o ≤ i ∧ i < o + l.length then l[i - o]'(by omega) else f i
  | [], f, o, i => by
    rw [dif_neg (by simp only [List.length_nil]; omega)]; rfl
  | x :: l, f, o, i => by
    rw [updL, updL_get l]
    simp only [List.length_cons]
    by_cases h1 : o + 1 ≤ i ∧ i < o + 1 + l.length
    · rw [dif_pos h1, dif_pos (by omega)]
      simp only [show i - o = (i - (o + 1)) + 1 by omega, List.getElem_cons_succ]
    · rw [dif_neg h1]
      by_cases h2 : i = o
      · subst h2
        rw [dif_pos (by omega)]
        simp [upd]
      · rw [dif_neg (by omega)]
        simp [upd, h2]

/-- What is known of a block besides its cells. -/
structure Mt where
  own : Bool
  nil : Bool
  size : Option Nat

def Blk.mt (b : Blk) : Mt := ⟨b.own, b.nil, b.size.map NN.v⟩

abbrev MT := Nat → Option Mt
abbrev CT := Nat → Nat → Option LVal

def mtOf (h : Trie Blk) : MT := fun id => (h.get id).map Blk.mt
def ctOf (h : Trie Blk) : CT := fun id i => match h.get id with
  | some b => contAt b.cont i
  | none => none

structure OwnOk (w : World) (b C : Nat) (m : Mt) : Prop where
  obj : ∃ c e lo hi, w.heap[b]? = some (.cells c e (lo, hi)) ∧ lo ≤ hi ∧ C ≤ c.size ∧ ∀ i, i < C → ¬ (lo ≤ i ∧ i < hi)
  size : ∀ s, m.size = some s → C = s

/-- The blocks of a state are in the world as it says. -/
structure HRel (ρ : Ren) (mt : MT) (ct : CT) (w : World) : Prop where
  blk : ∀ id m, mt id = some m → ∃ ob, ρ id = some ob ∧ m.nil = ob.isNone
  lt : ∀ id m b C, mt id = some m → ρ id = some (some (b, C)) → b < w.heap.size
  cell : ∀ id m b C i v, mt id = some m → ρ id = some (some (b, C)) → ct id i = some v → ∃ x, den ρ v = some x ∧ w.cell? ⟨b, i, none⟩ = some x ∧ x.oneCell' = true
  own : ∀ id m b C, mt id = some m → m.own = true → ρ id = some (some (b, C)) → OwnOk w b C m
  low : ∀ id m b C i v, mt id = some m → m.own = true → ρ id = some (some (b, C)) → ct id i = some v → i < C
  apart : ∀ i j mi mj b C b' C', i ≠ j → mt i = some mi → mi.own = true → mt j = some mj → ρ i = some (some (b, C)) → ρ j = some (some (b', C')) → b ≠ b'

/-- From one world to a later one: what was there and was nobody's to write is as it was. -/
structure Ext (ρ : Ren) (mt : MT) (w : World) (ρ' : Ren) (mt' : MT) (w' : World) : Prop where
  sub : Sub ρ ρ'
  os : w'.os = w.os
  tape : w'.tape = w.tape
  output : w'.output = w.output
  size : w.heap.size ≤ w'.heap.size
  block : ∀ b, b < w.heap.size → (∀ id m C, mt id = some m → m.own = true → ρ id ≠ some (some (b, C))) → w'.heap[b]? = w.heap[b]?
  own : ∀ id m b C, mt' id = some m → m.own = true → ρ' id = some (some (b, C)) → b < w.heap.size → ∃ id0 m0 C0, mt id0 = some m0 ∧ m0.own = true ∧ ρ id0 = some (some (b, C0))

theorem Ext.refl (ρ : Ren) (mt : MT) (w : World) : Ext ρ mt w ρ mt w :=
  ⟨.refl _, rfl, rfl, rfl, Nat.le_refl _, fun _ _ _ => rfl, fun id m b C h1 h2 h3 _ => ⟨id, m, C, h1, h2, h3⟩⟩

theorem Ext.trans {ρ ρ1 ρ2 : Ren} {mt mt1 mt2 : MT} {w w1 w2 : World} (h : Ext ρ mt w ρ1 mt1 w1) (k : Ext ρ1 mt1 w1 ρ2 mt2 w2) : Ext ρ mt w ρ2 mt2 w2 where
  sub := h.sub.trans k.sub
  os := k.os.trans h.os
  tape := k.tape.trans h.tape
  output := k.output.trans h.output
  size := Nat.le_trans h.size k.size
  block := fun b hb hno => by
    rw [k.block b (Nat.lt_of_lt_of_le hb h.size) ?_, h.block b hb hno]
    intro id m C h1 h2 h3
    obtain ⟨id0, m0, C0, g1, g2, g3⟩ := h.own id m b C h1 h2 h3 hb
    exact hno id0 m0 C0 g1 g2 g3
  own := fun id m b C h1 h2 h3 hb => by
    obtain ⟨id1, m1, C1, g1, g2, g3⟩ := k.own id m b C h1 h2 h3 (Nat.lt_of_lt_of_le hb h.size)
    exact h.own id1 m1 b C1 g1 g2 g3 hb

/-- A draw changes nothing that a state speaks of. -/
theorem HRel.drawn {ρ : Ren} {mt : MT} {ct : CT} {w w' : World} (h : HRel ρ mt ct w) (hw : w'.heap = w.heap) : HRel ρ mt ct w' := by
  have hc : ∀ a, w'.cell? a = w.cell? a := fun a => by simp only [World.cell?, hw]
  refine ⟨h.blk, fun id m b C h1 h2 => by rw [hw]; exact h.lt id m b C h1 h2, fun id m b C i v h1 h2 h3 => by rw [hc]; exact h.cell id m b C i v h1 h2 h3, fun id m b C h1 h2 h3 => ?_, h.low, h.apart⟩
  obtain ⟨ho, hs⟩ := h.own id m b C h1 h2 h3
  exact ⟨by rw [hw]; exact ho, hs⟩

theorem Ext.drawn {ρ : Ren} {mt : MT} {w : World} {n : Nat} : Ext ρ mt w ρ mt { w with drawn := n } :=
  ⟨.refl _, rfl, rfl, rfl, Nat.le_refl _, fun _ _ _ => rfl, fun id m _ C h1 h2 h3 _ => ⟨id, m, C, h1, h2, h3⟩⟩

theorem OwnOk.cell {w : World} {b C : Nat} {m : Mt} (h : OwnOk w b C m) {i : Nat} (hi : i < C) : (w.cell? ⟨b, i, none⟩).isSome = true := by
  obtain ⟨c, e, lo, hi', hb, _, hc, _⟩ := h.obj
  simp only [World.cell?, hb]
  simp
  omega

theorem OwnOk.frozen {w : World} {b C : Nat} {m : Mt} (h : OwnOk w b C m) {i : Nat} (hi : i < C) : w.frozen? ⟨b, i, none⟩ = false := by
  obtain ⟨c, e, lo, hi', hb, _, hc, hf⟩ := h.obj
  simp only [World.frozen?, hb]
  have := hf i hi
  simp
  omega

/-- A later world in which all these blocks are as they were. -/
theorem HRel.keep {ρ : Ren} {mt : MT} {ct : CT} {w w' : World} (h : HRel ρ mt ct w) (hs : w.heap.size ≤ w'.heap.size)
    (hb : ∀ id m b C, mt id = some m → ρ id = some (some (b, C)) → w'.heap[b]? = w.heap[b]?) : HRel ρ mt ct w' := by
  refine ⟨h.blk, fun id m b C h1 h2 => Nat.lt_of_lt_of_le (h.lt id m b C h1 h2) hs, fun id m b C i v h1 h2 h3 => ?_, fun id m b C h1 h2 h3 => ?_, h.low, h.apart⟩
  · obtain ⟨x, hx, hc, ho⟩ := h.cell id m b C i v h1 h2 h3
    refine ⟨x, hx, ?_, ho⟩
    rw [← hc]
    exact World.cell?_of_block (w := w) (hb id m b C h1 h2)
  · obtain ⟨ho, hz⟩ := h.own id m b C h1 h2 h3
    exact ⟨by rw [hb id m b C h1 h3]; exact ho, hz⟩

/-- Fewer blocks, less known of them. -/
theorem HRel.less {ρ : Ren} {mt mt' : MT} {ct ct' : CT} {w : World} (h : HRel ρ mt ct w)
    (hm : ∀ id m', mt' id = some m' → ∃ m, mt id = some m ∧ m'.nil = m.nil ∧ (m'.own = true → m.own = true ∧ m'.size = m.size))
    (hc : ∀ id i v, ct' id i = some v → ct id i = some v) : HRel ρ mt' ct' w := by
  refine ⟨fun id m' h1 => ?_, fun id m' b C h1 h2 => ?_, fun id m' b C i v h1 h2 h3 => ?_, fun id m' b C h1 h2 h3 => ?_, fun id m' b C i v h1 h2 h3 h4 => ?_, fun i j mi mj b C b' C' hij h1 h2 h3 h4 h5 => ?_⟩
  · obtain ⟨m, g1, g2, _⟩ := hm id m' h1
    rw [g2]; exact h.blk id m g1
  · obtain ⟨m, g1, _, _⟩ := hm id m' h1
    exact h.lt id m b C g1 h2
  · obtain ⟨m, g1, _, _⟩ := hm id m' h1
    exact h.cell id m b C i v g1 h2 (hc _ _ _ h3)
  · obtain ⟨m, g1, _, g3⟩ := hm id m' h1
    obtain ⟨g4, g5⟩ := g3 h2
    obtain ⟨ho, hs⟩ := h.own id m b C g1 g4 h3
    exact ⟨ho, fun s hs' => hs s (by rw [← g5]; exact hs')⟩
  · obtain ⟨m, g1, _, g3⟩ := hm id m' h1
    exact h.low id m b C i v g1 (g3 h2).1 h3 (hc _ _ _ h4)
  · obtain ⟨m, g1, _, g3⟩ := hm i mi h1
    obtain ⟨m2, k1, _, _⟩ := hm j mj h3
    exact h.apart i j m m2 b C b' C' hij g1 (g3 h2).1 k1 h4 h5

def setN {α : Type} (f : Nat → α) (n : Nat) (x : α) : Nat → α := fun i => if i = n then x else f i

@[simp] theorem setN_same {α : Type} (f : Nat → α) (n : Nat) (x : α) : setN f n x n = x := by simp [setN]
theorem setN_ne {α : Type} (f : Nat → α) {n m : Nat} (x : α) (h : m ≠ n) : setN f n x m = f m := by simp [setN, h]

theorem Sub.setN {ρ : Ren} {n : Nat} (h : ρ n = none) (x : Option (Option (Nat × Nat))) : Sub ρ (setN ρ n x) := fun id y hy => by
  have : id ≠ n := fun e => by rw [e, h] at hy; cases hy
  rw [setN_ne _ _ this]; exact hy

/-- A block becomes known under a new number: one that is new, or one whose number has been given up. -/
theorem HRel.add {ρ : Ren} {mt : MT} {ct : CT} {w : World} (h : HRel ρ mt ct w) {n : Nat} (hn : ρ n = none) (m : Mt) (k : Nat → Option LVal) (ob : Option (Nat × Nat))
    (hnil : m.nil = ob.isNone) (hlt : ∀ b C, ob = some (b, C) → b < w.heap.size)
    (hcell : ∀ b C i v, ob = some (b, C) → k i = some v → ∃ x, den ρ v = some x ∧ w.cell? ⟨b, i, none⟩ = some x ∧ x.oneCell' = true)
    (hown : ∀ b C, ob = some (b, C) → m.own = true → OwnOk w b C m)
    (hlow : ∀ b C i v, ob = some (b, C) → m.own = true → k i = some v → i < C)
    (hap : ∀ b C j mj b' C', ob = some (b, C) → mt j = some mj → (m.own = true ∨ mj.own = true) → ρ j = some (some (b', C')) → b ≠ b') :
    HRel (setN ρ n (some ob)) (setN mt n (some m)) (setN ct n k) w := by
  have hs := Sub.setN hn (some ob)
  have hne : ∀ id m', mt id = some m' → id ≠ n := fun id m' h1 e => by
    obtain ⟨o, ho, _⟩ := h.blk id m' h1
    rw [e, hn] at ho; cases ho
  refine ⟨fun id m' h1 => ?_, fun id m' b C h1 h2 => ?_, fun id m' b C i v h1 h2 h3 => ?_, fun id m' b C h1 h2 h3 => ?_, fun id m' b C i v h1 h2 h3 h4 => ?_, fun i j mi mj b C b' C' hij h1 h2 h3 h4 h5 => ?_⟩
  · by_cases e : id = n
    · subst e; simp only [setN_same, Option.some.injEq] at h1 ⊢; subst h1; exact ⟨ob, rfl, hnil⟩
    · rw [setN_ne _ _ e] at h1 ⊢; exact h.blk id m' h1
  · by_cases e : id = n
    · subst e; simp only [setN_same, Option.some.injEq] at h2; exact hlt b C h2
    · rw [setN_ne _ _ e] at h1 h2; exact h.lt id m' b C h1 h2
  · by_cases e : id = n
    · subst e; simp only [setN_same, Option.some.injEq] at h2 h3
      obtain ⟨x, hx, hc, ho⟩ := hcell b C i v h2 h3
      exact ⟨x, den_mono hs hx, hc, ho⟩
    · rw [setN_ne _ _ e] at h1 h2 h3
      obtain ⟨x, hx, hc, ho⟩ := h.cell id m' b C i v h1 h2 h3
      exact ⟨x, den_mono hs hx, hc, ho⟩
  · by_cases e : id = n
    · subst e; simp only [setN_same, Option.some.injEq] at h1 h3; subst h1; exact hown b C h3 h2
    · rw [setN_ne _ _ e] at h1 h3; exact h.own id m' b C h1 h2 h3
  · by_cases e : id = n
    · subst e; simp only [setN_same, Option.some.injEq] at h1 h3 h4; subst h1; exact hlow b C i v h3 h2 h4
    · rw [setN_ne _ _ e] at h1 h3 h4; exact h.low id m' b C i v h1 h2 h3 h4
  · by_cases e : i = n
    · subst e
      have e' : j ≠ i := Ne.symm hij
      simp only [setN_same, Option.some.injEq] at h1 h4
      rw [setN_ne _ _ e'] at h3 h5
      subst h1
      exact hap b C j mj b' C' h4 h3 (.inl h2) h5
    · rw [setN_ne _ _ e] at h1 h4
      by_cases e' : j = n
      · subst e'
        simp only [setN_same, Option.some.injEq] at h3 h5
        exact Ne.symm (hap b' C' i mi b C h5 h1 (.inr h2) h4)
      · rw [setN_ne _ _ e'] at h3 h5
        exact h.apart i j mi mj b C b' C' hij h1 h2 h3 h4 h5

/-- A new block. -/
theorem HRel.alloc {ρ : Ren} {mt : MT} {ct : CT} {w : World} (h : HRel ρ mt ct w) {n : Nat} (hn : ρ n = none) (c : Array Value) (e : TypeId) (m : Mt) (k : Nat → Option LVal)
    (hnil : m.nil = false) (hsize : ∀ s, m.size = some s → c.size = s)
    (hcell : ∀ i v, k i = some v → ∃ x, den ρ v = some x ∧ c[i]? = some x ∧ x.oneCell' = true) :
    HRel (setN ρ n (some (some (w.heap.size, c.size)))) (setN mt n (some m)) (setN ct n k) (w.alloc (.cells c e)) ∧
    Ext ρ mt w (setN ρ n (some (some (w.heap.size, c.size)))) (setN mt n (some m)) (w.alloc (.cells c e)) := by
  have hold : ∀ b, b < w.heap.size → (w.alloc (.cells c e)).heap[b]? = w.heap[b]? := fun b hb => by
    show (w.heap.push _)[b]? = _
    rw [Array.getElem?_push, if_neg (by omega)]
  have h1 : HRel ρ mt ct (w.alloc (.cells c e)) := h.keep (by simp) fun id m b C g1 g2 => hold b (h.lt id m b C g1 g2)
  have hnew : (w.alloc (.cells c e)).heap[w.heap.size]? = some (.cells c e (0, 0)) := by
    show (w.heap.push _)[w.heap.size]? = _
    simp
  refine ⟨h1.add hn m k _ (by simp [hnil]) (fun b C hb => ?_) (fun b C i v hb hk => ?_) (fun b C hb ho => ?_) (fun b C i v hb _ hk => ?_) (fun b C j mj b' C' hb g1 _ g2 => ?_), ?_⟩
  · obtain ⟨rfl, rfl⟩ := Prod.mk.injEq .. ▸ Option.some.inj hb
    simp
  · obtain ⟨rfl, rfl⟩ := Prod.mk.injEq .. ▸ Option.some.inj hb
    obtain ⟨x, hx, hc, ho⟩ := hcell i v hk
    exact ⟨x, hx, by rw [World.cell?_alloc_new]; exact hc, ho⟩
  · obtain ⟨rfl, rfl⟩ := Prod.mk.injEq .. ▸ Option.some.inj hb
    exact ⟨⟨c, e, 0, 0, hnew, Nat.le_refl _, Nat.le_refl _, fun i _ => by omega⟩, hsize⟩
  · obtain ⟨rfl, rfl⟩ := Prod.mk.injEq .. ▸ Option.some.inj hb
    obtain ⟨x, _, hc, _⟩ := hcell i v hk
    exact (Array.getElem?_eq_some_iff.1 hc).1
  · obtain ⟨rfl, rfl⟩ := Prod.mk.injEq .. ▸ Option.some.inj hb
    have := h.lt j mj b' C' g1 g2
    omega
  · refine ⟨Sub.setN hn _, rfl, rfl, rfl, by simp, fun b hb _ => hold b hb, fun id m' b C g1 g2 g3 hb => ?_⟩
    by_cases e' : id = n
    · subst e'; simp only [setN_same, Option.some.injEq, Prod.mk.injEq] at g3; omega
    · rw [setN_ne _ _ e'] at g1 g3; exact ⟨id, m', C, g1, g2, g3⟩

/- Writing into a block that is one's own. -/

theorem heap_setCells (b : Nat) : ∀ (vs : List Value) (o : Nat) (w : World) (k : Nat), k ≠ b → (w.setCells b o vs).heap[k]? = w.heap[k]?
  | [], _, _, _, _ => rfl
  | v :: r, o, w, k, h => by
    rw [World.setCells, heap_setCells b r (o + 1) _ k h]
    exact Below.heap_setCell w ⟨b, o, none⟩ v k h

theorem size_setCells (b : Nat) : ∀ (vs : List Value) (o : Nat) (w : World), (w.setCells b o vs).heap.size = w.heap.size
  | [], _, _ => rfl
  | v :: r, o, w => by rw [World.setCells, size_setCells b r]; simp

theorem obj_setCells (b : Nat) : ∀ (vs : List Value) (o : Nat) (w : World) (c : Array Value) (e : TypeId) (f : Nat × Nat), w.heap[b]? = some (.cells c e f) →
    ∃ c', (w.setCells b o vs).heap[b]? = some (.cells c' e f) ∧ c'.size = c.size
  | [], _, _, c, _, _, h => ⟨c, h, rfl⟩
  | v :: r, o, w, c, e, f, h => by
    have h' : (w.setCell ⟨b, o, none⟩ v).heap[b]? = some (.cells (c.setIfInBounds o v) e f) := by
      simp [World.setCell, Array.getElem?_modify, h]
    obtain ⟨c', h1, h2⟩ := obj_setCells b r (o + 1) _ _ e f h'
    exact ⟨c', h1, by simpa using h2⟩

theorem os_setCells (b : Nat) : ∀ (vs : List Value) (o : Nat) (w : World), (w.setCells b o vs).os = w.os ∧ (w.setCells b o vs).tape = w.tape ∧ (w.setCells b o vs).output = w.output
  | [], _, _ => ⟨rfl, rfl, rfl⟩
  | v :: r, o, w => by rw [World.setCells]; exact os_setCells b r (o + 1) _

theorem cell_setCells_other (b : Nat) : ∀ (vs : List Value) (o : Nat) (w : World) (i : Nat), (i < o ∨ o + vs.length ≤ i) → (w.setCells b o vs).cell? ⟨b, i, none⟩ = w.cell? ⟨b, i, none⟩
  | [], _, _, _, _ => rfl
  | v :: r, o, w, i, h => by
    simp only [List.length_cons] at h
    rw [World.setCells, cell_setCells_other b r (o + 1) _ i (by omega)]
    exact World.cell?_setCell_other _ _ _ _ (by simp only [ne_eq, Addr.mk.injEq]; omega)

theorem cell_setCells_in (b : Nat) : ∀ (vs : List Value) (o : Nat) (w : World), (∀ j, j < vs.length → (w.cell? ⟨b, o + j, none⟩).isSome = true) →
    ∀ j x, vs[j]? = some x → (w.setCells b o vs).cell? ⟨b, o + j, none⟩ = some x
  | [], _, _, _, _, _, h => by simp at h
  | v :: r, o, w, hc, 0, x, h => by
    simp only [List.getElem?_cons_zero, Option.some.injEq] at h
    subst h
    rw [World.setCells, Nat.add_zero, cell_setCells_other b r (o + 1) _ _ (by omega)]
    obtain ⟨u, hu⟩ := Option.isSome_iff_exists.1 (hc 0 (by simp))
    exact World.cell?_setCell_same _ _ _ hu
  | v :: r, o, w, hc, j + 1, x, h => by
    rw [World.setCells, show o + (j + 1) = o + 1 + j by omega]
    refine cell_setCells_in b r (o + 1) _ (fun i hi => ?_) j x (by simpa using h)
    rw [World.cell?_setCell_other _ _ _ _ (by simp only [ne_eq, Addr.mk.injEq]; omega)]
    have := hc (i + 1) (by simp; omega)
    rwa [show o + (i + 1) = o + 1 + i by omega] at this

/-- Cells of an own block are written; what is known of it then is k. -/
theorem HRel.write {ρ : Ren} {mt : MT} {ct : CT} {w : World} (h : HRel ρ mt ct w) {id : Nat} {m : Mt} {b C : Nat} (hm : mt id = some m) (ho : m.own = true) (hρ : ρ id = some (some (b, C)))
    (o : Nat) (vs : List Value) (k : Nat → Option LVal)
    (hin : o + vs.length ≤ C) (h1 : ∀ v ∈ vs, v.oneCell' = true)
    (hk : ∀ i v, k i = some v → (∃ x, den ρ v = some x ∧ ((i < o ∨ o + vs.length ≤ i) ∧ w.cell? ⟨b, i, none⟩ = some x ∧ x.oneCell' = true ∧ i < C ∨ o ≤ i ∧ vs[i - o]? = some x))) :
    HRel ρ mt (setN ct id k) (w.setCells b o vs) ∧ Ext ρ mt w ρ mt (w.setCells b o vs) := by
  have hown := h.own id m b C hm ho hρ
  have hsome : ∀ j, j < vs.length → (w.cell? ⟨b, o + j, none⟩).isSome = true := fun j hj => hown.cell (by omega)
  refine ⟨⟨h.blk, fun i mi b' C' g1 g2 => by rw [size_setCells]; exact h.lt i mi b' C' g1 g2, fun i mi b' C' q v g1 g2 g3 => ?_, fun i mi b' C' g1 g2 g3 => ?_, fun i mi b' C' q v g1 g2 g3 g4 => ?_, h.apart⟩, ?_⟩
  · by_cases e : i = id
    · subst e
      rw [setN_same] at g3
      rw [hρ] at g2
      obtain ⟨rfl, rfl⟩ : b = b' ∧ C = C' := by simpa using g2
      obtain ⟨x, hx, hc⟩ := hk q v g3
      refine ⟨x, hx, ?_⟩
      rcases hc with ⟨hq, hc, h1c, _⟩ | ⟨hq, hv⟩
      · rw [cell_setCells_other b vs o w q hq]; exact ⟨hc, h1c⟩
      · have := cell_setCells_in b vs o w hsome (q - o) x hv
        rw [show o + (q - o) = q by omega] at this
        exact ⟨this, h1 x (List.mem_of_getElem? hv)⟩
    · rw [setN_ne _ _ e] at g3
      obtain ⟨x, hx, hc, hone⟩ := h.cell i mi b' C' q v g1 g2 g3
      refine ⟨x, hx, ?_, hone⟩
      have hne : b' ≠ b := Ne.symm (h.apart id i m mi b C b' C' (Ne.symm e) hm ho g1 hρ g2)
      rw [← hc]
      exact World.cell?_of_block (w := w) (heap_setCells b vs o w b' hne)
  · by_cases e : i = id
    · subst e
      rw [hρ] at g3
      obtain ⟨rfl, rfl⟩ : b = b' ∧ C = C' := by simpa using g3
      obtain rfl : m = mi := by rw [hm] at g1; exact Option.some.inj g1
      obtain ⟨⟨c, e, lo, hi, hb, hl, hC, hf⟩, hs⟩ := hown
      obtain ⟨c', hb', hc'⟩ := obj_setCells b vs o w c e (lo, hi) hb
      exact ⟨⟨c', e, lo, hi, hb', hl, by omega, hf⟩, hs⟩
    · have hne : b' ≠ b := Ne.symm (h.apart id i m mi b C b' C' (Ne.symm e) hm ho g1 hρ g3)
      obtain ⟨hob, hs⟩ := h.own i mi b' C' g1 g2 g3
      exact ⟨by rw [heap_setCells b vs o w b' hne]; exact hob, hs⟩
  · by_cases e : i = id
    · subst e
      rw [setN_same] at g4
      rw [hρ] at g3
      obtain ⟨rfl, rfl⟩ : b = b' ∧ C = C' := by simpa using g3
      obtain ⟨x, _, hc⟩ := hk q v g4
      rcases hc with ⟨_, _, _, hq⟩ | ⟨hq, hv⟩
      · exact hq
      · have := (List.getElem?_eq_some_iff.1 hv).1
        omega
    · rw [setN_ne _ _ e] at g4
      exact h.low i mi b' C' q v g1 g2 g3 g4
  · obtain ⟨e1, e2, e3⟩ := os_setCells b vs o w
    refine ⟨.refl _, e1, e2, e3, by rw [size_setCells]; exact Nat.le_refl _, fun b' _ hno => heap_setCells b vs o w b' fun e => hno id m C hm ho (by rw [hρ, e]), fun i mi b' C' g1 g2 g3 _ => ⟨i, mi, C', g1, g2, g3⟩⟩

end Go.LE

/- The local evaluator, part E: operations that only compute. -/
namespace Go.LE
open Go.RowKit

/-- A row of the evaluator's table of types is right. -/
def shapeP (P : Program) (t : TypeId) : TD → Prop
  | .int k => P.underlying t = some (.int k)
  | .bool => P.underlying t = some .bool
  | .str => P.underlying t = some .string
  | .ptr e => P.underlying t = some (.pointer e)
  | .slice e => P.underlying t = some (.slice e)
  | .arr n e => P.underlying t = some (.array n e)
  | .struct fs => ∃ fields : Array Field, P.underlying t = some (.struct fields) ∧ fields.toList.map (fun f => (f.offset, f.type)) = fs ∧ ∀ f ∈ fields.toList, ∃ i, P.info? f.type = some i
  | .func => ∃ ps rs v, P.underlying t = some (.func ps rs v)

structure RowOk (P : Program) (t : TypeId) (i : TI) : Prop where
  info : ∃ inf, P.info? t = some inf ∧ inf.size = i.size ∧ inf.bytes = i.bytes ∧ ∃ z zs, inf.zero = some z ∧ (∀ ρ, denL ρ i.zero = some zs) ∧ z.cells.toList = zs ∧ zs.length = i.size ∧ (∀ x ∈ zs, x.oneCell' = true)
  shape : shapeP P t i.d

structure TabOk (P : Program) (E : Env) : Prop where
  row : ∀ t i, E.tt.get t = some i → RowOk P t i

section
variable {P : Program} {w : World}

theorem RowOk.run_size {t : TypeId} {i : TI} (h : RowOk P t i) : (sizeOf t).run P w = .ok i.size w := by
  obtain ⟨inf, h1, h2, _⟩ := h.info
  simp [sizeOf, typeInfo, h1, h2]

theorem RowOk.run_agg {t : TypeId} {i : TI} (h : RowOk P t i) : (isAgg t).run P w = .ok i.agg w := by
  have hs := h.shape
  unfold TI.agg
  cases hd : i.d <;> simp only [hd, shapeP] at hs
  case struct fs => obtain ⟨_, hs, _⟩ := hs; simp [isAgg, run_underlying hs]
  case func => obtain ⟨_, _, _, hs⟩ := hs; simp [isAgg, run_underlying hs]
  all_goals simp [isAgg, run_underlying hs]

theorem run_under {t : TypeId} {d : TypeDesc} (h : P.underlying t = some d) : (underlying t).run P w = .ok d w := run_underlying h w

end

/- Lists. -/

theorem takeL_spec {α : Type} : ∀ {n : Nat} {l r : List α}, takeL n l = some r → r.length = n ∧ ∀ j, j < n → r[j]? = l[j]?
  | 0, _, _, h => by obtain rfl := Option.some.inj h; simp
  | n + 1, [], _, h => by cases h
  | n + 1, a :: l, r, h => by
    simp only [takeL] at h
    split at h
    · rename_i q hq
      obtain rfl := Option.some.inj h
      obtain ⟨h1, h2⟩ := takeL_spec hq
      refine ⟨by simp [h1], fun j hj => ?_⟩
      cases j with
      | zero => rfl
      | succ j => simpa using h2 j (by omega)
    · cases h

theorem dropL_spec {α : Type} : ∀ (n : Nat) (l : List α), dropL n l = l.drop n
  | 0, _ => rfl
  | n + 1, [] => by simp [dropL]
  | n + 1, _ :: l => by simp [dropL, dropL_spec n l]

theorem nth_spec {α : Type} : ∀ (n : Nat) (l : List α), nth n l = l[n]?
  | 0, [] => rfl
  | 0, _ :: _ => rfl
  | _ + 1, [] => rfl
  | n + 1, _ :: l => by simp [nth, nth_spec n l]

theorem takeL_drop {α : Type} {n o : Nat} {l r : List α} (h : takeL n (dropL o l) = some r) : r.length = n ∧ ∀ j, j < n → r[j]? = l[o + j]? := by
  obtain ⟨h1, h2⟩ := takeL_spec h
  exact ⟨h1, fun j hj => by rw [h2 j hj, dropL_spec, List.getElem?_drop]⟩

theorem denL_get {ρ : Ren} : ∀ {l : List LVal} {xs : List Value}, denL ρ l = some xs → xs.length = l.length ∧ ∀ (j : Nat) v, l[j]? = some v → ∃ x, xs[j]? = some x ∧ den ρ v = some x
  | [], xs, h => by obtain rfl := Option.some.inj h; simp
  | v :: l, xs, h => by
    simp only [denL] at h
    split at h
    · rename_i x r hx hr
      obtain rfl := Option.some.inj h
      obtain ⟨h1, h2⟩ := denL_get hr
      refine ⟨by simp [h1], fun j u hj => ?_⟩
      cases j with
      | zero => simp only [List.getElem?_cons_zero, Option.some.injEq] at hj ⊢; subst hj; exact ⟨x, rfl, hx⟩
      | succ j => simpa using h2 j u (by simpa using hj)
    · cases h

theorem denL_of {ρ : Ren} : ∀ {l : List LVal}, (∀ (j : Nat) v, l[j]? = some v → ∃ x, den ρ v = some x) → ∃ xs, denL ρ l = some xs
  | [], _ => ⟨[], rfl⟩
  | v :: l, h => by
    obtain ⟨x, hx⟩ := h 0 v rfl
    obtain ⟨xs, hxs⟩ := denL_of (l := l) fun j u hj => h (j + 1) u (by simpa using hj)
    exact ⟨x :: xs, by simp [denL, hx, hxs]⟩

theorem denL_append {ρ : Ren} : ∀ {l r : List LVal} {xs ys : List Value}, denL ρ l = some xs → denL ρ r = some ys → denL ρ (l ++ r) = some (xs ++ ys)
  | [], _, xs, _, h, k => by obtain rfl := Option.some.inj h; simpa using k
  | v :: l, r, xs, ys, h, k => by
    simp only [denL] at h
    split at h
    · rename_i x q hx hq
      obtain rfl := Option.some.inj h
      simp [denL, hx, denL_append hq k]
    · cases h

theorem denL_take {ρ : Ren} : ∀ {n : Nat} {l r : List LVal} {xs : List Value}, takeL n l = some r → denL ρ l = some xs → denL ρ r = some (xs.take n)
  | 0, _, _, _, h, _ => by obtain rfl := Option.some.inj h; rfl
  | n + 1, [], _, _, h, _ => by cases h
  | n + 1, a :: l, r, xs, h, k => by
    simp only [takeL] at h
    split at h
    · rename_i q hq
      obtain rfl := Option.some.inj h
      simp only [denL] at k
      split at k
      · rename_i x y hx hy
        obtain rfl := Option.some.inj k
        simp [denL, hx, denL_take hq hy]
      · cases k
    · cases h

theorem denL_drop {ρ : Ren} : ∀ {n : Nat} {l : List LVal} {xs : List Value}, denL ρ l = some xs → denL ρ (dropL n l) = some (xs.drop n)
  | 0, _, _, h => h
  | n + 1, [], xs, h => by obtain rfl := Option.some.inj h; rfl
  | n + 1, a :: l, xs, h => by
    simp only [denL] at h
    split at h
    · rename_i x y hx hy
      obtain rfl := Option.some.inj h
      simpa [dropL] using denL_drop (n := n) hy
    · cases h

/-- The part of a list of values is the part of their meanings. -/
theorem denL_part {ρ : Ren} {l r : List LVal} {xs : List Value} {n o : Nat} (h : denL ρ l = some xs) (hr : takeL n (dropL o l) = some r) :
    denL ρ r = some ((xs.drop o).take n) := denL_take hr (denL_drop h)

theorem denL_one {ρ : Ren} {v : LVal} {xs : List Value} (h : denL ρ [v] = some xs) : ∃ x, den ρ v = some x ∧ xs = [x] := by
  simp only [denL] at h
  split at h
  · rename_i x y hx hy
    obtain rfl := Option.some.inj hy
    exact ⟨x, hx, (Option.some.inj h).symm⟩
  · cases h

theorem denL_cons {ρ : Ren} {v : LVal} {l : List LVal} {xs : List Value} (h : denL ρ (v :: l) = some xs) : ∃ x r, den ρ v = some x ∧ denL ρ l = some r ∧ xs = x :: r := by
  simp only [denL] at h
  split at h
  · rename_i x y hx hy
    exact ⟨x, y, hx, hy, (Option.some.inj h).symm⟩
  · cases h

/- Operands. -/

theorem den_ofVal (ρ : Ren) (v : Value) : den ρ (ofVal v) = some v := by
  unfold ofVal
  split <;> simp [den]

theorem denL_ofVal (ρ : Ren) : ∀ l : List Value, denL ρ (l.map ofVal) = some l
  | [] => rfl
  | v :: l => by simp [denL, den_ofVal, denL_ofVal ρ l]

theorem den_ofValA (ρ : Ren) (v : Value) : den ρ (ofValA v) = some v := by
  unfold ofValA
  split
  · simp [den, denL_ofVal]
  · exact den_ofVal ρ v

/-- The slots of a state hold what the frame holds. -/
def SlotsOk (ρ : Ren) (sl : Nat → Option LVal) (a : Act) : Prop := ∀ t v, sl t = some v → ∃ x, den ρ v = some x ∧ a.tmps[t]? = some x

/-- The slots that an operand names are as the state has them. -/
def Sees (st : St) (sl : Nat → Option LVal) (x : Operand) : Prop := ∀ t, x = .tmp t → sl t = st.sl.get t

theorem oval_den {ρ : Ren} {st : St} {sl : Nat → Option LVal} {a : Act} (h : SlotsOk ρ sl a) {x : Operand} (hx : Sees st sl x) {v : LVal} (hv : st.oval x = some v) : den ρ v = some (a.eval x) := by
  cases x with
  | tmp t =>
    obtain ⟨y, h1, h2⟩ := h t v (by rw [hx t rfl]; exact hv)
    simp only [Act.eval, Array.getD_eq_getD_getElem?, h2, Option.getD_some]
    exact h1
  | const c => obtain rfl := Option.some.inj hv; exact den_ofValA ρ c
  | global g => cases hv
  | func f => obtain rfl := Option.some.inj hv; simp [den, denL, Act.eval]

theorem ovals_den {ρ : Ren} {st : St} {sl : Nat → Option LVal} {a : Act} (h : SlotsOk ρ sl a) : ∀ {l : List Operand} {vs : List LVal}, (∀ x ∈ l, Sees st sl x) → ovals st l = some vs →
    denL ρ vs = some (l.map a.eval)
  | [], vs, _, hv => by obtain rfl := Option.some.inj hv; rfl
  | x :: l, vs, hx, hv => by
    simp only [ovals] at hv
    split at hv
    · rename_i v h1
      split at hv
      · rename_i r h2
        obtain rfl := Option.some.inj hv
        simp [denL, oval_den h (hx x (by simp)) h1, ovals_den h (fun y hy => hx y (by simp [hy])) h2]
      · cases hv
    · cases hv

theorem pvals_den {ρ : Ren} {st : St} {sl : Nat → Option LVal} {a : Act} (h : SlotsOk ρ sl a) : ∀ {l : List (Nat × Operand)} {vs : List (Nat × LVal)}, (∀ x ∈ l, Sees st sl x.2) → pvals st l = some vs →
    vs.map (·.1) = l.map (·.1) ∧ denL ρ (vs.map (·.2)) = some (l.map fun p => a.eval p.2)
  | [], vs, _, hv => by obtain rfl := Option.some.inj hv; exact ⟨rfl, rfl⟩
  | (i, x) :: l, vs, hx, hv => by
    simp only [pvals] at hv
    split at hv
    · rename_i v h1
      split at hv
      · rename_i r h2
        obtain rfl := Option.some.inj hv
        obtain ⟨g1, g2⟩ := pvals_den h (fun y hy => hx y (by simp [hy])) h2
        exact ⟨by simp [g1], by simp [denL, oval_den h (hx (i, x) (by simp)) h1, g2]⟩
      · cases hv
    · cases hv

/- Arithmetic and comparison. -/

section
variable {P : Program} {w : World} {ρ : Ren}

theorem iShl_eq (k : IntKind) (x : Int) (n : Nat) : iShl k x n = k.wrap (x * 2 ^ (min n k.bits)) := by
  simp [iShl, Int.natCast_pow]

theorem iShr_eq (k : IntKind) (x : Int) (n : Nat) : iShr k x n = x.fdiv (2 ^ (min n k.bits)) := by
  simp [iShr, Int.natCast_pow]

theorem den_cmpN (f : Int → Int → Bool) (a b : LN) : den ρ (cmpN f a b) = some (.bool (f a.v b.v)) := by
  cases a <;> cases b <;> rfl

theorem intOp_den {op : BinOp} {k : IntKind} {a b : LN} {v : LVal} (h : (intOp op k a b).res v) :
    ∃ r, den ρ v = some r ∧ (Sem.run P (match op with
      | .add | .sub | .mul => Op.intArith op k a.v b.v
      | .quo | .rem => Op.intDiv op k a.v b.v
      | .and | .or | .xor | .andNot => Op.intBits op k a.v b.v
      | _ => Op.intCmp op a.v b.v) w) = .ok r w := by
  cases op <;> simp only [intOp] at h
  case quo =>
    split at h
    · split at h
      · exact h.elim
      · rename_i hy
        obtain rfl := h
        have hy' := of_decide_eq_false hy
        exact ⟨_, rfl, by simp [Op.intDiv, hy', LN.op_v _ _ (fun x y => wrapK_eq k _)]⟩
    · obtain ⟨hy, rfl⟩ := h
      exact ⟨_, rfl, by simp [Op.intDiv, hy, LN.op_v _ _ (fun x y => wrapK_eq k _)]⟩
  case rem =>
    split at h
    · split at h
      · exact h.elim
      · rename_i hy
        obtain rfl := h
        have hy' := of_decide_eq_false hy
        exact ⟨_, rfl, by simp [Op.intDiv, hy', LN.op_v _ _ (fun x y => rfl)]⟩
    · obtain ⟨hy, rfl⟩ := h
      exact ⟨_, rfl, by simp [Op.intDiv, hy, LN.op_v _ _ (fun x y => rfl)]⟩
  case shl => exact h.elim
  case shr => exact h.elim
  all_goals obtain rfl := h
  case add => exact ⟨_, rfl, by simp [Op.intArith, LN.op_v _ _ (fun x y => wrapK_eq k _)]⟩
  case sub => exact ⟨_, rfl, by simp [Op.intArith, LN.op_v _ _ (fun x y => wrapK_eq k _)]⟩
  case mul => exact ⟨_, rfl, by simp [Op.intArith, LN.op_v _ _ (fun x y => wrapK_eq k _)]⟩
  case and => exact ⟨_, rfl, by simp [Op.intBits, LN.op_v _ _ (fun x y => rfl), iAnd]⟩
  case or => exact ⟨_, rfl, by simp [Op.intBits, LN.op_v _ _ (fun x y => rfl), iOr]⟩
  case xor => exact ⟨_, rfl, by simp [Op.intBits, LN.op_v _ _ (fun x y => rfl), iXor]⟩
  case andNot => exact ⟨_, rfl, by simp [Op.intBits, LN.op_v _ _ (fun x y => rfl), iAndNot]⟩
  all_goals exact ⟨_, den_cmpN _ a b, by simp [Op.intCmp]⟩

theorem shiftOp_den {op : BinOp} {k yk : IntKind} {a b : LN} {v : LVal} (h : (shiftOp op k a b).res v) :
    ∃ r, den ρ v = some r ∧ (Op.shift op k a.v yk b.v).run P w = .ok r w := by
  cases op <;> simp only [shiftOp] at h
  case shl =>
    obtain ⟨h0, rfl⟩ := res_nonneg h
    exact ⟨_, rfl, by simp [Op.shift, show ¬ b.v < 0 by omega, LN.op_v _ _ (fun x y => rfl), iShl_eq]⟩
  case shr =>
    obtain ⟨h0, rfl⟩ := res_nonneg h
    exact ⟨_, rfl, by simp [Op.shift, show ¬ b.v < 0 by omega, LN.op_v _ _ (fun x y => rfl), iShr_eq]⟩
  all_goals exact h.elim

theorem unV_den {op : UnOp} {x v : LVal} {a : Value} (h : (unV op x).res v) (hx : den ρ x = some a) : ∃ r, den ρ v = some r ∧ (Op.unary op a).run P w = .ok r w := by
  unfold unV at h
  split at h
  · obtain rfl := h
    obtain rfl := Option.some.inj hx
    exact ⟨_, rfl, by simp [Op.unary, Op.intArith, wrapK_eq]⟩
  · obtain rfl := h
    obtain rfl := Option.some.inj hx
    exact ⟨_, rfl, by simp [Op.unary, Op.intArith]⟩
  · obtain rfl := h
    obtain rfl := Option.some.inj hx
    exact ⟨_, rfl, by simp [Op.unary, Op.intBits, iXor]⟩
  · obtain rfl := h
    obtain rfl := Option.some.inj hx
    exact ⟨_, rfl, by simp [Op.unary, Op.intBits, iXor]⟩
  · obtain rfl := h
    obtain rfl := Option.some.inj hx
    exact ⟨_, rfl, by simp [Op.unary]⟩
  · exact h.elim

end

end Go.LE

/- The local evaluator, part F: equality, parts of values, addresses. -/
namespace Go.LE
open Go.RowKit

section
variable {P : Program} {w : World} {ρ : Ren}

theorem intsOf_get {k : IntKind} : ∀ {l : List LVal} {a : List Int}, LVal.intsOf k l = some a → a.length = l.length ∧ ∀ (j : Nat) v, l[j]? = some v → ∃ n, a[j]? = some n ∧ den ρ v = some (.int k n)
  | [], a, h => by obtain rfl := Option.some.inj h; simp
  | v :: l, a, h => by
    cases v <;> simp only [LVal.intsOf, LN.on_v] at h <;> try cases h
    rename_i k' n
    split at h
    · rename_i hk
      obtain rfl := of_decide_eq_true hk
      split at h
      · rename_i r hr
        obtain rfl := Option.some.inj h
        obtain ⟨h1, h2⟩ := intsOf_get (l := l) hr
        refine ⟨by simp [h1], fun j u hj => ?_⟩
        cases j with
        | zero => simp only [List.getElem?_cons_zero, Option.some.injEq] at hj ⊢; subst hj; exact ⟨_, rfl, rfl⟩
        | succ j => simpa using h2 j u (by simpa using hj)
      · cases h
    · cases h

/-- What numbers a list of values stands for, it stands for. -/
theorem intsOf_den {k : IntKind} {l : List LVal} {a : List Int} {xs : List Value} (h : LVal.intsOf k l = some a) (hx : denL ρ l = some xs) : xs = a.map (Value.int k) := by
  obtain ⟨h1, h2⟩ := intsOf_get (ρ := ρ) h
  obtain ⟨g1, g2⟩ := denL_get hx
  apply List.ext_getElem?
  intro j
  rcases Nat.lt_or_ge j l.length with hj | hj
  · obtain ⟨n, e1, e2⟩ := h2 j _ (List.getElem?_eq_getElem hj)
    obtain ⟨x, e3, e4⟩ := g2 j _ (List.getElem?_eq_getElem hj)
    rw [e2] at e4
    simp [e3, e1, ← Option.some.inj e4]
  · rw [List.getElem?_eq_none (by omega), List.getElem?_map, List.getElem?_eq_none (by omega)]
    rfl

theorem eqItems_ints {k : IntKind} {e : TypeId} (he : P.underlying e = some (.int k)) (d : Nat) (hc : P.cellsOf e = 1) : ∀ (n o : Nat) (a b : List Int) (xs ys : Array Value),
    (∀ j, xs[o + j]? = (a[j]?).map (Value.int k)) → (∀ j, ys[o + j]? = (b[j]?).map (Value.int k)) → a.length = n → b.length = n →
    (Op.eqItems (d + 1) e 1 xs ys (List.range' o n)).run P w = .ok (eqInts a b) w
  | 0, o, [], [], xs, ys, _, _, _, _ => by simp [Op.eqItems, eqInts]
  | n + 1, o, x :: a, y :: b, xs, ys, hx, hy, ha, hb => by
    have ih := eqItems_ints he d hc n (o + 1) a b xs ys (fun j => by have := hx (j + 1); simpa [Nat.add_assoc, Nat.add_comm 1 j] using this) (fun j => by have := hy (j + 1); simpa [Nat.add_assoc, Nat.add_comm 1 j] using this) (by simpa using ha) (by simpa using hb)
    have h1 := hx 0
    have h2 := hy 0
    simp only [Nat.add_zero, List.getElem?_cons_zero, Option.map_some] at h1 h2
    have hp : ∀ (zs : Array Value) z, zs[o]? = some z → (part e zs (o * 1)).run P w = .ok z w := fun zs z hz => by
      simp [part, isAgg, run_underlying he, hz]
    rw [List.range'_succ]
    simp only [Op.eqItems, Sem.run_bind, hp xs _ h1, hp ys _ h2, Result.andThen_ok, run_equalIn_int w d e k k x y he]
    by_cases hxy : x = y
    · subst hxy; simp [ih, eqInts]
    · have : (x == y) = false := by simpa using hxy
      simp [this, eqInts]

theorem eqArr {k : IntKind} {t e : TypeId} {n : Nat} (ht : P.underlying t = some (.array n e)) (he : P.underlying e = some (.int k)) (hs : P.cellsOf e = 1) (hi : ∃ i, P.info? e = some i)
    (a b : List Int) (ha : a.length = n) (hb : b.length = n) :
    (Op.equal t (.agg (a.map (Value.int k)).toArray) (.agg (b.map (Value.int k)).toArray)).run P w = .ok (eqInts a b) w := by
  obtain ⟨i, hi⟩ := hi
  rw [Op.equal, Op.maxDepth, run_equalIn_array w 9999 _ _ ht hi, hs, List.range_eq_range']
  exact eqItems_ints he 9998 hs n 0 a b _ _ (fun j => by simp) (fun j => by simp) ha hb

theorem eqGuard_arr {k : IntKind} {t e : TypeId} {n : Nat} (ht : P.underlying t = some (.array n e)) (he : P.underlying e = some (.int k)) (op : BinOp) (x y : Operand) (xs ys : Array Value) :
    (eqGuard op t x y (.agg xs) (.agg ys)).run P w = .ok () w := by
  refine run_eqGuard_agg w op t x y xs ys ?_
  have h2 : ∀ d, P.eqGuardType (d + 2) t = false := fun d => by simp [Program.eqGuardType, ht, he]
  have : P.depth = 2 * (P.types.size + Made.depth) + 2 := rfl
  rw [this]
  exact h2 _

theorem RowOk.cellsOf {t : TypeId} {i : TI} (h : RowOk P t i) : P.cellsOf t = i.size := by
  obtain ⟨inf, h1, h2, _⟩ := h.info
  simp [Program.cellsOf, h1, h2]

theorem RowOk.has {t : TypeId} {i : TI} (h : RowOk P t i) : ∃ i, P.info? t = some i := by
  obtain ⟨inf, h1, _⟩ := h.info
  exact ⟨inf, h1⟩

/-- The blocks that are asked whether they are nil are known to be or not. -/
def NilOk (ρ : Ren) (h : Trie Blk) (id : Nat) : Prop := ∀ b, h.get id = some b → ∃ ob, ρ id = some ob ∧ b.nil = ob.isNone

theorem eqGuard_other (op : BinOp) (t : TypeId) (x y : Operand) (a b : Value) (h : ∀ xs ys, a = .agg xs → b ≠ .agg ys) (h' : a ≠ .nilIface) : (eqGuard op t x y a b).run P w = .ok () w := by
  unfold eqGuard
  cases a <;> simp_all <;> split <;> simp_all

theorem eqIn_ptr_nil (d : Nat) {t e : TypeId} (p : Option Addr) (hu : P.underlying t = some (.pointer e)) : (Op.equalIn (d + 1) t (.pointer p) (.pointer none)).run P w = .ok p.isNone w := by
  cases p <;> simp [Op.equalIn, run_underlying hu]

theorem eqIn_nil_ptr (d : Nat) {t e : TypeId} (p : Option Addr) (hu : P.underlying t = some (.pointer e)) : (Op.equalIn (d + 1) t (.pointer none) (.pointer p)).run P w = .ok p.isNone w := by
  simp [Op.equalIn, run_underlying hu]

theorem eqIn_slice_nil (d : Nat) {t e : TypeId} (a : Option Addr) (l c : Nat) (hu : P.underlying t = some (.slice e)) : (Op.equalIn (d + 1) t (.slice a l c) (.slice none 0 0)).run P w = .ok a.isNone w := by
  cases a <;> simp [Op.equalIn, run_underlying hu]

theorem denS_form {ob : Option (Nat × Nat)} {o n : Nat} {c : Option Nat} {x : Value} (h : denS (some ob) o n c = some x) : ∃ ad l cp, x = .slice ad l cp ∧ ad.isNone = ob.isNone := by
  cases ob with
  | none =>
    cases c <;> simp only [denS] at h <;> split at h
    · exact ⟨_, _, _, (Option.some.inj h).symm, rfl⟩
    · cases h
    · exact ⟨_, _, _, (Option.some.inj h).symm, rfl⟩
    · cases h
  | some p =>
    obtain ⟨b, C⟩ := p
    cases c <;> simp only [denS] at h
    · split at h
      · exact ⟨_, _, _, (Option.some.inj h).symm, rfl⟩
      · cases h
    · exact ⟨_, _, _, (Option.some.inj h).symm, rfl⟩

theorem eqOp_den {E : EnvX} (hE : TabOk P E.toEnv) {st : St} {t : TypeId} {x y : LVal} {s r : Bool} {a b : Value} (h : (eqOp E.toEnv st t x y).res (s, r)) (hx : den ρ x = some a) (hy : den ρ y = some b)
    (hn : ∀ id ∈ nilAcc x y, NilOk ρ st.hp id) :
    (binOp .eql t a b).run P w = .ok (.bool r) w ∧ (binOp .neq t a b).run P w = .ok (.bool (!r)) w ∧ ∀ op ox oy, (eqGuard op t ox oy a b).run P w = .ok () w := by
  unfold eqOp at h
  split at h
  · rename_i hr
    have hu := (hE.row _ _ hr).shape
    simp only [shapeP] at hu
    obtain rfl := Option.some.inj hx
    obtain rfl := Option.some.inj hy
    simp only [Tree.res_done, Prod.mk.injEq] at h
    obtain ⟨rfl, rfl⟩ := h
    have he := fun a b => run_equal_bool (P := P) w t a b hu
    exact ⟨by simp [binOp, he], by simp [binOp, he], fun op ox oy => eqGuard_other op t ox oy _ _ (by simp) (by simp)⟩
  · rename_i hr
    have hu := (hE.row _ _ hr).shape
    simp only [shapeP] at hu
    obtain rfl := Option.some.inj hy
    simp only [Tree.res_done, Prod.mk.injEq] at h
    obtain ⟨rfl, rfl⟩ := h
    simp only [den, denP] at hx
    split at hx
    · obtain rfl := Option.some.inj hx
      have he : ∀ ad, (Op.equal t (.pointer (some ad)) (.pointer none)).run P w = .ok false w := fun ad => eqIn_ptr_nil 9999 (some ad) hu
      exact ⟨by simp [binOp, he], by simp [binOp, he], fun op ox oy => eqGuard_other op t ox oy _ _ (by simp) (by simp)⟩
    · cases hx
  · rename_i hr
    have hu := (hE.row _ _ hr).shape
    simp only [shapeP] at hu
    obtain rfl := Option.some.inj hx
    simp only [Tree.res_done, Prod.mk.injEq] at h
    obtain ⟨rfl, rfl⟩ := h
    simp only [den, denP] at hy
    split at hy
    · obtain rfl := Option.some.inj hy
      have he : ∀ ad, (Op.equal t (.pointer none) (.pointer (some ad))).run P w = .ok false w := fun ad => eqIn_nil_ptr 9999 (some ad) hu
      exact ⟨by simp [binOp, he], by simp [binOp, he], fun op ox oy => eqGuard_other op t ox oy _ _ (by simp) (by simp)⟩
    · cases hy
  · rename_i hr
    have hu := (hE.row _ _ hr).shape
    simp only [shapeP] at hu
    obtain rfl := Option.some.inj hx
    obtain rfl := Option.some.inj hy
    simp only [Tree.res_done, Prod.mk.injEq] at h
    obtain ⟨rfl, rfl⟩ := h
    have he : (Op.equal t (.pointer none) (.pointer none)).run P w = .ok true w := eqIn_nil_ptr 9999 none hu
    exact ⟨by simp [binOp, he], by simp [binOp, he], fun op ox oy => eqGuard_other op t ox oy _ _ (by simp) (by simp)⟩
  · rename_i hr
    have hu := (hE.row _ _ hr).shape
    simp only [shapeP] at hu
    obtain rfl := Option.some.inj hx
    obtain rfl := Option.some.inj hy
    simp only [Tree.res_done, Prod.mk.injEq] at h
    obtain ⟨rfl, rfl⟩ := h
    have he : (Op.equal t (.slice none 0 0) (.slice none 0 0)).run P w = .ok true w := eqIn_slice_nil 9999 none 0 0 hu
    exact ⟨by simp [binOp, he], by simp [binOp, he], fun op ox oy => eqGuard_other op t ox oy _ _ (by simp) (by simp)⟩
  · rename_i id _ _ _ hr
    have hu := (hE.row _ _ hr).shape
    simp only [shapeP] at hu
    obtain rfl := Option.some.inj hy
    split at h
    · rename_i bk hb
      simp only [Tree.res_done, Prod.mk.injEq] at h
      obtain ⟨rfl, rfl⟩ := h
      obtain ⟨ob, ho, hnil⟩ := hn id (by simp [nilAcc]) bk hb
      simp only [den, ho] at hx
      obtain ⟨ad, l, c, rfl, he⟩ := denS_form hx
      have he' : (Op.equal t (.slice ad l c) (.slice none 0 0)).run P w = .ok ad.isNone w := eqIn_slice_nil 9999 ad l c hu
      rw [he, ← hnil] at he'
      exact ⟨by simp [binOp, he'], by simp [binOp, he'], fun op ox oy => eqGuard_other op t ox oy _ _ (by simp) (by simp)⟩
    · exact h.elim
  · rename_i n e _ _ _ l r hr
    have hu := (hE.row _ _ hr).shape
    simp only [shapeP] at hu
    split at h
    · rename_i k _ _ hre
      have hue := (hE.row _ _ hre).shape
      simp only [shapeP] at hue
      split at h
      · rename_i a1 b1 h1 h2 hl
        simp only [Tree.res_done, Prod.mk.injEq] at h
        obtain ⟨rfl, rfl⟩ := h
        simp only [den] at hx hy
        split at hx
        · rename_i xs hxs
          split at hy
          · rename_i ys hys
            obtain rfl := Option.some.inj hx
            obtain rfl := Option.some.inj hy
            simp only [Bool.and_eq_true] at hl
            have l1 := Nat.eq_of_beq_eq_true hl.1
            have l2 := Nat.eq_of_beq_eq_true hl.2
            rw [intsOf_den h1 hxs, intsOf_den h2 hys]
            have he := eqArr (w := w) hu hue (hE.row _ _ hre).cellsOf (hE.row _ _ hre).has a1 b1 (by rw [(intsOf_get (ρ := ρ) h1).1, l1]) (by rw [(intsOf_get (ρ := ρ) h2).1, l2])
            exact ⟨by simp only [binOp, Sem.run_bind, he, Result.andThen_ok, Sem.run_pure], by simp only [binOp, Sem.run_bind, he, Result.andThen_ok, Sem.run_pure], fun op ox oy => eqGuard_arr hu hue op ox oy _ _⟩
          · cases hy
        · cases hx
      · exact h.elim
    · exact h.elim
  · exact h.elim

theorem binI_den {op : BinOp} {t : TypeId} {k k' : IntKind} {a b : LN} {v : LVal} (h : (binI op k a k' b).res v) (ox oy : Operand) :
    ∃ r, den ρ v = some r ∧ (do eqGuard op t ox oy (.int k a.v) (.int k' b.v); binOp op t (.int k a.v) (.int k' b.v) : Sem Value).run P w = .ok r w := by
  have hg := eqGuard_other (P := P) (w := w) op t ox oy (.int k a.v) (.int k' b.v) (by simp) (by simp)
  unfold binI at h
  split at h
  · rename_i hs
    obtain ⟨r, hr, hrun⟩ := shiftOp_den (P := P) (w := w) (ρ := ρ) (yk := k') h
    refine ⟨r, hr, ?_⟩
    rw [Sem.run_bind, hg, Result.andThen_ok]
    cases op <;> simp [shiftAct] at hs <;> simp [binOp, hrun]
  · rename_i hs
    split at h
    · rename_i hk
      obtain rfl := of_decide_eq_true hk
      obtain ⟨r, hr, hrun⟩ := intOp_den (P := P) (w := w) (ρ := ρ) h
      refine ⟨r, hr, ?_⟩
      rw [Sem.run_bind, hg, Result.andThen_ok]
      cases op <;> simp [shiftAct] at hs <;> simp only [binOp] <;> simpa using hrun
    · exact h.elim

theorem binS_den {op : BinOp} {t : TypeId} {a b : ByteArray} {v : LVal} (h : (binS op a b).res v) (ox oy : Operand) :
    ∃ r, den ρ v = some r ∧ (do eqGuard op t ox oy (.string a) (.string b); binOp op t (.string a) (.string b) : Sem Value).run P w = .ok r w := by
  have hg := eqGuard_other (P := P) (w := w) op t ox oy (.string a) (.string b) (by simp) (by simp)
  unfold binS at h
  split at h
  · obtain ⟨hlen, rfl⟩ := h
    refine ⟨_, rfl, ?_⟩
    have : ¬ (((a.size + b.size : Nat) : Int) > IntKind.i64.max) := by
      have : IntKind.i64.max = 9223372036854775807 := by decide
      omega
    rw [Sem.run_bind, hg, Result.andThen_ok]
    simp only [binOp, Op.stringOp]
    rw [if_neg this]
    rfl
  · obtain rfl := h
    exact ⟨_, rfl, by rw [Sem.run_bind, hg, Result.andThen_ok]; simp [binOp, Op.stringOp]⟩
  · obtain rfl := h
    exact ⟨_, rfl, by rw [Sem.run_bind, hg, Result.andThen_ok]; simp [binOp, Op.stringOp]⟩
  · exact h.elim

theorem binV_den {E : EnvX} (hE : TabOk P E.toEnv) {st : St} {op : BinOp} {t : TypeId} {x y v : LVal} {a b : Value} (h : (binV E.toEnv st op t x y).res v) (hx : den ρ x = some a) (hy : den ρ y = some b)
    (hn : ∀ id ∈ nilAcc x y, NilOk ρ st.hp id) (ox oy : Operand) :
    ∃ r, den ρ v = some r ∧ (do eqGuard op t ox oy a b; binOp op t a b : Sem Value).run P w = .ok r w := by
  unfold binV at h
  split at h
  · obtain rfl := Option.some.inj hx
    obtain rfl := Option.some.inj hy
    exact binI_den h ox oy
  · obtain rfl := Option.some.inj hx
    obtain rfl := Option.some.inj hy
    exact binS_den h ox oy
  · unfold binO at h
    split at h
    · obtain ⟨⟨s, r⟩, h1, h2⟩ := Tree.res_bind h
      obtain rfl := h2
      obtain ⟨he, _, hg⟩ := eqOp_den (w := w) hE h1 hx hy hn
      exact ⟨_, rfl, by rw [Sem.run_bind, hg, Result.andThen_ok, he]⟩
    · obtain ⟨⟨s, r⟩, h1, h2⟩ := Tree.res_bind h
      obtain rfl := h2
      obtain ⟨_, he, hg⟩ := eqOp_den (w := w) hE h1 hx hy hn
      exact ⟨_, rfl, by rw [Sem.run_bind, hg, Result.andThen_ok, he]⟩
    · exact h.elim

end
end Go.LE

/- The local evaluator, part G: parts of values, addresses, slices: operations that only compute. -/
namespace Go.LE
open Go.RowKit

theorem addr_add (b o n : Nat) : (⟨b, o, none⟩ : Addr).add n = ⟨b, o + n, none⟩ := by
  unfold Addr.add
  split <;> simp_all

theorem Option.bound_none {α : Type} : (none : Option α) = none := rfl

section
variable {P : Program} {w : World} {ρ : Ren}

theorem size_row {E : EnvX} (hE : TabOk P E.toEnv) {t : TypeId} {s : Nat} (h : E.toEnv.size t = some s) : ∃ i, E.tt.get t = some i ∧ i.size = s ∧ RowOk P t i := by
  unfold Env.size at h
  split at h
  · rename_i i hi
    exact ⟨i, hi, Option.some.inj h, hE.row _ _ hi⟩
  · cases h

/- A value of which the cells are known. -/
theorem ofCells_den {i : TI} {t : TypeId} {cs : List LVal} {v : LVal} {xs : List Value} (hi : RowOk P t i) (h : ofCells i cs = some v) (hx : denL ρ cs = some xs) (hl : xs.length = i.size) :
    ∃ x, den ρ v = some x ∧ (i.agg = true → x = .agg xs.toArray) ∧ (i.agg = false → xs = [x]) := by
  unfold ofCells at h
  split at h
  · rename_i ha
    obtain rfl := Option.some.inj h
    exact ⟨.agg xs.toArray, by simp [den, hx], fun _ => rfl, fun h => by rw [ha] at h; cases h⟩
  · rename_i ha
    split at h
    · obtain rfl := Option.some.inj h
      obtain ⟨x, h1, h2⟩ := denL_one hx
      exact ⟨x, h1, (fun h => by rw [ha] at h; cases h), fun _ => h2⟩
    · cases h

theorem run_part {i : TI} {t : TypeId} (hi : RowOk P t i) (c : Array Value) (o : Nat) (x : Value) (ha : i.agg = true → x = .agg (((c.toList.drop o).take i.size)).toArray) (hn : i.agg = false → c[o]? = some x) :
    (part t c o).run P w = .ok x w := by
  unfold part
  simp only [Sem.run_bind, hi.run_agg, Result.andThen_ok]
  cases hg : i.agg with
  | true =>
    rw [ha hg]
    simp only [if_true, Sem.run_bind, hi.run_size, Result.andThen_ok, Sem.run_pure]
    congr 2
    apply Array.ext'
    simp [List.take_drop]
  | false => simp [hn hg]

theorem fieldV_den {E : EnvX} (hE : TabOk P E.toEnv) {t : TypeId} {x : LVal} {f : Nat} {e : Eff} {a : Value} (h : (fieldV E.toEnv t x f).res e) (hx : den ρ x = some a) :
    e.wr = [] ∧ e.cnt = 0 ∧ ∃ r, den ρ e.val = some r ∧ (Instr.field t a f).run P w = .ok r w := by
  unfold fieldV at h
  split at h
  · rename_i cs fs _ _ _ hr
    have hu := (hE.row _ _ hr).shape
    simp only [shapeP] at hu
    obtain ⟨fields, hu, hfs, _⟩ := hu
    split at h
    · rename_i o ft hf
      split at h
      · rename_i i hi
        split at h
        · rename_i r hp
          split at h
          · rename_i v hv
            obtain rfl := h
            simp only [den] at hx
            split at hx
            · rename_i xs hxs
              obtain rfl := Option.some.inj hx
              have hd := denL_part hxs hp
              have hlen : ((xs.drop o).take i.size).length = i.size := by
                rw [(denL_get hd).1, (takeL_drop hp).1]
              obtain ⟨y, hy, h1, h2⟩ := ofCells_den (hE.row _ _ hi) hv hd hlen
              refine ⟨rfl, rfl, y, hy, ?_⟩
              rw [nth_spec] at hf
              have hfield : ∃ fd : Field, fields[f]? = some fd ∧ fd.offset = o ∧ fd.type = ft := by
                rw [← hfs, List.getElem?_map, Option.map_eq_some_iff] at hf
                obtain ⟨fd, hfd, he⟩ := hf
                exact ⟨fd, by simpa using hfd, (Prod.mk.inj he).1, (Prod.mk.inj he).2⟩
              obtain ⟨fd, hfd, rfl, rfl⟩ := hfield
              simp only [Instr.field, Sem.run_bind, run_underlying hu, Result.andThen_ok, hfd, asAgg, Sem.run_pure]
              exact run_part (hE.row _ _ hi) _ _ _ (fun ha => h1 ha) (fun ha => by
                have h3 := h2 ha
                have h4 : ((xs.drop fd.offset).take i.size)[0]? = some y := by rw [h3]; rfl
                have hs : 0 < i.size := by rw [h3] at hlen; simp at hlen; omega
                rw [List.getElem?_take_of_lt hs, List.getElem?_drop] at h4
                simpa using h4)
            · cases hx
          · exact h.elim
        · exact h.elim
      · exact h.elim
    · exact h.elim
  · exact h.elim

theorem fieldAddrV_den {E : EnvX} (hE : TabOk P E.toEnv) {t : TypeId} {x : LVal} {f : Nat} {e : Eff} {a : Value} (h : (fieldAddrV E.toEnv t x f).res e) (hx : den ρ x = some a) :
    e.wr = [] ∧ e.cnt = 0 ∧ ∃ r, den ρ e.val = some r ∧ (Instr.fieldAt t a f).run P w = .ok r w := by
  unfold fieldAddrV at h
  split at h
  · rename_i id off fs _ _ _ hr
    have hu := (hE.row _ _ hr).shape
    simp only [shapeP] at hu
    obtain ⟨fields, hu, hfs, _⟩ := hu
    split at h
    · rename_i o ft hf
      split at h
      · rename_i s hs
        obtain rfl := h
        obtain ⟨i, hi, hsz, hrow⟩ := size_row hE hs
        simp only [den] at hx
        unfold denP at hx
        split at hx
        · rename_i b C hb
          obtain rfl := Option.some.inj hx
          refine ⟨rfl, rfl, .pointer (some ⟨b, off.v + o, none⟩), by simp [den, denP, hb], ?_⟩
          rw [nth_spec] at hf
          have hfield : ∃ fd : Field, fields[f]? = some fd ∧ fd.offset = o ∧ fd.type = ft := by
            rw [← hfs, List.getElem?_map, Option.map_eq_some_iff] at hf
            obtain ⟨fd, hfd, he⟩ := hf
            exact ⟨fd, by simpa using hfd, (Prod.mk.inj he).1, (Prod.mk.inj he).2⟩
          obtain ⟨fd, hfd, rfl, rfl⟩ := hfield
          have hz : ¬ (i.size = 0) := by omega
          simp only [Instr.fieldAt, Sem.run_bind, run_underlying hu, Result.andThen_ok, hfd, Instr.sureAddr, Sem.run_pure, fieldPlace, hrow.run_size, if_neg hz, addr_add]
        · cases hx
      · exact h.elim
    · exact h.elim
  · exact h.elim

theorem indexAddrV_den {E : EnvX} (hE : TabOk P E.toEnv) {t : TypeId} {x n : LVal} {e : Eff} {a c : Value} (h : (indexAddrV E.toEnv t x n).res e) (hx : den ρ x = some a) (hn : den ρ n = some c) :
    e.wr = [] ∧ e.cnt = 0 ∧ ∃ r, den ρ e.val = some r ∧ (Instr.indexAt t a c).run P w = .ok r w := by
  unfold indexAddrV at h
  split at h
  · rename_i id off k m len et _ _ _ hr
    have hu := (hE.row _ _ hr).shape
    simp only [shapeP] at hu
    obtain rfl := Option.some.inj hn
    split at h
    · rename_i s hs
      obtain ⟨i, hi, hsz, hrow⟩ := size_row hE hs
      obtain ⟨h0, h⟩ := res_nonneg h
      obtain ⟨h1, h⟩ := res_leN h
      obtain rfl := h
      simp only [NN.add_v, LN.toNN_v, NN.lit_v] at h1
      simp only [den] at hx
      unfold denP at hx
      split at hx
      · rename_i b C hb
        obtain rfl := Option.some.inj hx
        refine ⟨rfl, rfl, .pointer (some ⟨b, off.v + m.v.toNat * s, none⟩), by simp [den, denP, hb], ?_⟩
        have hin : 0 ≤ m.v ∧ m.v < (len : Int) := ⟨h0, by omega⟩
        simp only [Instr.indexAt, Sem.run_bind, asIntOf, Sem.run_pure, Result.andThen_ok, run_underlying hu, Instr.sureAddr, if_pos hin, Sem.run_ite, hrow.run_size, addr_add, hsz]
      · cases hx
    · exact h.elim
  · rename_i id off len cap k m et _ _ _ hr
    have hu := (hE.row _ _ hr).shape
    simp only [shapeP] at hu
    obtain rfl := Option.some.inj hn
    split at h
    · rename_i s hs
      obtain ⟨i, hi, hsz, hrow⟩ := size_row hE hs
      obtain ⟨h0, h⟩ := res_nonneg h
      obtain ⟨h1, h⟩ := res_leN h
      obtain rfl := h
      simp only [NN.add_v, LN.toNN_v, NN.lit_v] at h1
      have key : ∃ b C cp, ρ id = some (some (b, C)) ∧ a = .slice (some ⟨b, off.v, none⟩) len.v cp := by
        simp only [den] at hx
        unfold denS at hx
        split at hx
        · rename_i b C c0 hb hc
          exact ⟨b, C, _, hb, (Option.some.inj hx).symm⟩
        · rename_i b C hb hc
          split at hx
          · exact ⟨b, C, _, hb, (Option.some.inj hx).symm⟩
          · cases hx
        · split at hx
          · rename_i hz; omega
          · cases hx
        · split at hx
          · rename_i hz; omega
          · cases hx
        · cases hx
      obtain ⟨b, C, cp, hb, rfl⟩ := key
      refine ⟨rfl, rfl, .pointer (some ⟨b, off.v + m.v.toNat * s, none⟩), by simp [den, denP, hb], ?_⟩
      have hin : 0 ≤ m.v ∧ m.v < (len.v : Int) := ⟨h0, by omega⟩
      simp only [Instr.indexAt, Sem.run_bind, asIntOf, Sem.run_pure, Result.andThen_ok, run_underlying hu, if_pos hin, Sem.run_ite, hrow.run_size, addr_add, hsz]
    · exact h.elim
  · rename_i id off l len k m et _ _ _ hr
    have hu := (hE.row _ _ hr).shape
    simp only [shapeP] at hu
    obtain rfl := Option.some.inj hn
    split at h
    · rename_i hs
      obtain ⟨i, hi, hsz, hrow⟩ := size_row hE hs
      obtain ⟨h0, h⟩ := res_nonneg h
      obtain ⟨h1, h⟩ := res_leN h
      obtain rfl := h
      simp only [NN.add_v, LN.toNN_v, NN.lit_v] at h1
      simp only [den] at hx
      unfold denC at hx
      split at hx
      · rename_i b C hb
        split at hx
        · rename_i hC
          obtain rfl := Option.some.inj hx
          refine ⟨rfl, rfl, .pointer (some ⟨b, off.v + l.v + m.v.toNat, none⟩), by simp [den, denP, hb], ?_⟩
          have hin : 0 ≤ m.v ∧ m.v < (len.v : Int) := ⟨h0, by omega⟩
          simp only [Instr.indexAt, Sem.run_bind, asIntOf, Sem.run_pure, Result.andThen_ok, run_underlying hu, if_pos hin, Sem.run_ite, hrow.run_size, addr_add, hsz, Nat.mul_one]
          rw [if_neg (by omega)]
        · cases hx
      · split at hx
        · rename_i hz; omega
        · cases hx
      · cases hx
    · exact h.elim
  · exact h.elim

theorem indexV_den {E : EnvX} (hE : TabOk P E.toEnv) {t : TypeId} {x n : LVal} {e : Eff} {a c : Value} (h : (indexV E.toEnv t x n).res e) (hx : den ρ x = some a) (hn : den ρ n = some c) :
    e.wr = [] ∧ e.cnt = 0 ∧ ∃ r, den ρ e.val = some r ∧ (Instr.index t a c).run P w = .ok r w := by
  unfold indexV at h
  split at h
  · rename_i cs k m len et _ _ _ hr
    have hu := (hE.row _ _ hr).shape
    simp only [shapeP] at hu
    obtain rfl := Option.some.inj hn
    split at h
    · rename_i i hi
      obtain ⟨h0, h⟩ := res_nonneg h
      obtain ⟨h1, h⟩ := res_leN h
      split at h
      · rename_i r hp
        split at h
        · rename_i v hv
          obtain rfl := h
          simp only [den] at hx
          split at hx
          · rename_i xs hxs
            obtain rfl := Option.some.inj hx
            have hd := denL_part hxs hp
            have hlen : ((xs.drop (m.toNat * i.size)).take i.size).length = i.size := by
              rw [(denL_get hd).1, (takeL_drop hp).1]
            obtain ⟨y, hy, g1, g2⟩ := ofCells_den (hE.row _ _ hi) hv hd hlen
            refine ⟨rfl, rfl, y, hy, ?_⟩
            have hin : 0 ≤ m ∧ m < (len : Int) := ⟨h0, by simp only [NN.lit_v] at h1; omega⟩
            simp only [Instr.index, Sem.run_bind, asIntOf, Sem.run_pure, Result.andThen_ok, run_underlying hu, LN.v, if_pos hin, Sem.run_ite, (hE.row _ _ hi).run_size]
            exact run_part (hE.row _ _ hi) _ _ _ (fun ha => g1 ha) (fun ha => by
              have h3 := g2 ha
              have h4 : ((xs.drop (m.toNat * i.size)).take i.size)[0]? = some y := by rw [h3]; rfl
              have hs : 0 < i.size := by rw [h3] at hlen; simp at hlen; omega
              rw [List.getElem?_take_of_lt hs, List.getElem?_drop] at h4
              simpa using h4)
          · cases hx
        · exact h.elim
      · exact h.elim
    · exact h.elim
  · exact h.elim

theorem toArrV_den {E : EnvX} (hE : TabOk P E.toEnv) {t : TypeId} {x : LVal} {e : Eff} {a : Value} (h : (toArrV E.toEnv t x).res e) (hx : den ρ x = some a) :
    e.wr = [] ∧ e.cnt = 0 ∧ ∃ r, den ρ e.val = some r ∧ (Instr.arrayAt t a).run P w = .ok r w := by
  unfold toArrV at h
  split at h
  · rename_i id off len cap n et _ _ _ hr
    have hu := (hE.row _ _ hr).shape
    simp only [shapeP] at hu
    split at h
    · exact h.elim
    · rename_i n
      obtain ⟨h1, h⟩ := res_leN h
      obtain rfl := h
      simp only [NN.lit_v] at h1
      have key : ∃ b C cp, ρ id = some (some (b, C)) ∧ a = .slice (some ⟨b, off.v, none⟩) len.v cp := by
        simp only [den] at hx
        unfold denS at hx
        split at hx
        · rename_i b C c0 hb hc
          exact ⟨b, C, _, hb, (Option.some.inj hx).symm⟩
        · rename_i b C hb hc
          split at hx
          · exact ⟨b, C, _, hb, (Option.some.inj hx).symm⟩
          · cases hx
        · split at hx
          · rename_i hz; have := hz.1; omega
          · cases hx
        · split at hx
          · rename_i hz; omega
          · cases hx
        · cases hx
      obtain ⟨b, C, cp, hb, rfl⟩ := key
      refine ⟨rfl, rfl, .pointer (some ⟨b, off.v, none⟩), by simp [den, denP, hb], ?_⟩
      have hnl : ¬ (len.v < n + 1) := by omega
      simp only [Instr.arrayAt, Sem.run_bind, run_underlying hu, Result.andThen_ok, if_neg hnl, Sem.run_ite, Sem.run_pure]
  · exact h.elim

end
end Go.LE

/- The local evaluator, part H: slice expressions, composite values, lengths, conversions. -/
namespace Go.LE
open Go.RowKit

section
variable {P : Program} {w : World} {ρ : Ren}

theorem boundN_res {x : Option LVal} {d : NN} {k : NN → Tree Eff} {e : Eff} (h : (boundN x d k).res e) :
    (x = none ∧ (k d).res e) ∨ ∃ q n, x = some (.int q n) ∧ 0 ≤ n.v ∧ (k n.toNN).res e := by
  unfold boundN at h
  split at h
  · exact .inl ⟨rfl, h⟩
  · obtain ⟨h0, h⟩ := res_nonneg h
    exact .inr ⟨_, _, rfl, h0, h⟩
  · exact h.elim

/-- The meaning of an operand that may be missing. -/
def denO (ρ : Ren) : Option LVal → Option Value → Prop
  | none, none => True
  | some v, some x => den ρ v = some x
  | _, _ => False

theorem run_bound {q : IntKind} {n : Int} {y : Nat} (code : BoundsCode) (h0 : 0 ≤ n) (h : n.toNat ≤ y) : (Instr.sliceBound (.int q n) y code).run P w = .ok n.toNat w := by
  have : 0 ≤ n ∧ n ≤ (y : Int) := ⟨h0, by omega⟩
  simp [Instr.sliceBound, asIntOf, this]

def maxOr (mx : Option LVal) (c m : Nat) : Nat := match mx with
  | none => c
  | some _ => m

theorem bounds3_res {len cap : NN} {lo hi mx : Option LVal} {k : NN → NN → NN → Tree Eff} {e : Eff} (h : (bounds3 len cap lo hi mx k).res e) {lo' hi' mx' : Option Value} (g1 : denO ρ lo lo') (g2 : denO ρ hi hi') (g3 : denO ρ mx mx') :
    ∃ l h m : NN, (k l h m).res e ∧ l.v ≤ h.v ∧ h.v ≤ m.v ∧ m.v ≤ cap.v ∧ (mx = none → m.v = cap.v) ∧
      ∀ isS c, cap.v ≤ c → (Instr.sliceBounds isS len.v c lo' hi' mx').run P w = .ok (l.v, h.v, maxOr mx c m.v) w := by
  unfold bounds3 at h
  split at h
  · exact h.elim
  · rename_i hno
    rcases boundN_res h with ⟨rfl, h⟩ | ⟨q, n, rfl, hn, h⟩
    · obtain ⟨e1, h⟩ := res_leN h
      cases mx' <;> simp only [denO] at g3
      rcases boundN_res h with ⟨rfl, h⟩ | ⟨q2, n2, rfl, hn2, h⟩
      · obtain ⟨e2, h⟩ := res_leN h
        cases hi' <;> simp only [denO] at g2
        rcases boundN_res h with ⟨rfl, h⟩ | ⟨q3, n3, rfl, hn3, h⟩
        · obtain ⟨e3, h⟩ := res_leN h
          cases lo' <;> simp only [denO] at g1
          exact ⟨_, _, _, h, e3, e2, e1, fun _ => rfl, fun isS c hc => by simp [maxOr, Instr.sliceBounds]⟩
        · obtain ⟨e3, h⟩ := res_leN h
          cases lo' <;> simp only [denO] at g1
          obtain rfl := Option.some.inj g1
          refine ⟨_, _, _, h, e3, e2, e1, fun _ => rfl, fun isS c hc => ?_⟩
          simp only [LN.toNN_v] at e3
          simp [maxOr, Instr.sliceBounds, run_bound _ hn3 e3]
      · obtain ⟨e2, h⟩ := res_leN h
        cases hi' <;> simp only [denO] at g2
        obtain rfl := Option.some.inj g2
        simp only [LN.toNN_v] at e2
        rcases boundN_res h with ⟨rfl, h⟩ | ⟨q3, n3, rfl, hn3, h⟩
        · obtain ⟨e3, h⟩ := res_leN h
          cases lo' <;> simp only [denO] at g1
          exact ⟨_, _, _, h, e3, by simpa using e2, e1, fun _ => rfl, fun isS c hc => by simp [maxOr, Instr.sliceBounds, run_bound _ hn2 (Nat.le_trans e2 hc)]⟩
        · obtain ⟨e3, h⟩ := res_leN h
          cases lo' <;> simp only [denO] at g1
          obtain rfl := Option.some.inj g1
          refine ⟨_, _, _, h, e3, by simpa using e2, e1, fun _ => rfl, fun isS c hc => ?_⟩
          simp only [LN.toNN_v] at e3
          simp [maxOr, Instr.sliceBounds, run_bound _ hn2 (Nat.le_trans e2 hc), run_bound _ hn3 e3]
    · obtain ⟨e1, h⟩ := res_leN h
      cases mx' <;> simp only [denO] at g3
      obtain rfl := Option.some.inj g3
      simp only [LN.toNN_v] at e1
      rcases boundN_res h with ⟨rfl, h⟩ | ⟨q2, n2, rfl, hn2, h⟩
      · exact absurd rfl (hno _ rfl)
      · obtain ⟨e2, h⟩ := res_leN h
        cases hi' <;> simp only [denO] at g2
        obtain rfl := Option.some.inj g2
        simp only [LN.toNN_v] at e2
        rcases boundN_res h with ⟨rfl, h⟩ | ⟨q3, n3, rfl, hn3, h⟩
        · obtain ⟨e3, h⟩ := res_leN h
          cases lo' <;> simp only [denO] at g1
          exact ⟨_, _, _, h, e3, by simpa using e2, by simpa using e1, (fun h => by cases h), fun isS c hc => by simp [maxOr, Instr.sliceBounds, run_bound _ hn (Nat.le_trans e1 hc), run_bound _ hn2 e2]⟩
        · obtain ⟨e3, h⟩ := res_leN h
          cases lo' <;> simp only [denO] at g1
          obtain rfl := Option.some.inj g1
          refine ⟨_, _, _, h, e3, by simpa using e2, by simpa using e1, (fun h => by cases h), fun isS c hc => ?_⟩
          simp only [LN.toNN_v] at e3
          simp [maxOr, Instr.sliceBounds, run_bound _ hn (Nat.le_trans e1 hc), run_bound _ hn2 e2, run_bound _ hn3 e3]

theorem offAt_some {off l len c : NN} {esz : Nat} {o : NN} (h : (offAt off l len (some c) esz).res o) :
    o.v = (if c.v = l.v then off.v else off.v + l.v * esz) ∨ (l.v = 0 ∧ o.v = off.v) := by
  cases l with
  | lit x =>
    cases x with
    | zero => obtain rfl := h; exact .inr ⟨rfl, rfl⟩
    | succ x =>
      cases c with
      | lit c =>
        simp only [offAt] at h
        split at h
        · rename_i hb
          obtain rfl := h
          have := Nat.eq_of_beq_eq_true hb
          subst this
          simp
        · rename_i hb
          obtain rfl := h
          have : c ≠ x + 1 := fun e => by subst e; simp at hb
          simp [this]
      | sym c => simp only [offAt, NN.on_v] at h; obtain rfl := h; exact .inl rfl
  | sym x =>
    cases c with
    | lit c => simp only [offAt, NN.on_v] at h; obtain rfl := h; exact .inl rfl
    | sym c => simp only [offAt, NN.on_v] at h; obtain rfl := h; exact .inl rfl

def cutAt (C off l : Nat) : Nat := if C - off = l then off else off + l

theorem cutV_den {id : Nat} {off l len n : NN} {b C : Nat} (hb : ρ id = some (some (b, C))) (hC : off.v + len.v ≤ C) (hl : l.v + n.v ≤ len.v) :
    den ρ (cutV id off l len n) = some (.slice (some ⟨b, cutAt C off.v l.v, none⟩) n.v (C - off.v - l.v)) := by
  have hcut : ∀ y : NN, y.v = l.v → den ρ (.cut id off y n) = some (.slice (some ⟨b, cutAt C off.v l.v, none⟩) n.v (C - off.v - l.v)) := fun y hy => by
    simp only [den, denC, hb, hy]
    rw [if_pos (by omega), Nat.sub_sub]
    unfold cutAt
    congr 4
    by_cases e : C = off.v + l.v
    · rw [if_pos e, if_pos (by omega)]
    · rw [if_neg e, if_neg (by omega)]
  unfold cutV
  split
  · simp only [NN.lit_v] at hl
    simp only [den, denS, hb, Option.map_none, NN.lit_v]
    rw [if_pos (by omega)]
    have : cutAt C off.v 0 = off.v := by unfold cutAt; split <;> omega
    rw [this, Nat.sub_zero]
  · rename_i _ _ x m _
    simp only [NN.lit_v] at hl hC
    split
    · rename_i hx
      have := Nat.le_of_ble_eq_true hx
      simp only [den, denS, hb, Option.map_none, NN.add_v, NN.lit_v]
      rw [if_pos (by omega), Nat.sub_sub]
      have h2 : cutAt C off.v x = off.v + x := by unfold cutAt; rw [if_neg (by omega)]
      rw [h2]
    · exact hcut _ rfl
  · exact hcut _ rfl

theorem cutV_nil {id : Nat} {off l len n : NN} (hb : ρ id = some none) (hn : n.v = 0) : den ρ (cutV id off l len n) = some (.slice none 0 0) := by
  unfold cutV
  split
  · simp [den, denS, hb, hn]
  · split
    · simp [den, denS, hb, hn]
    · simp [den, denC, hb, hn]
  · simp [den, denC, hb, hn]

theorem denS_some {id : Nat} {o n c : Nat} {x : Value} (h : denS (ρ id) o n (some c) = some x) :
    (∃ b C, ρ id = some (some (b, C)) ∧ x = .slice (some ⟨b, o, none⟩) n c) ∨ (ρ id = some none ∧ n = 0 ∧ c = 0 ∧ x = .slice none 0 0) := by
  unfold denS at h
  split at h
  · rename_i b C c0 hb hc
    obtain rfl := Option.some.inj hc
    exact .inl ⟨b, C, hb, (Option.some.inj h).symm⟩
  · rename_i hc; cases hc
  · rename_i hb hc
    obtain rfl := Option.some.inj hc
    split at h
    · rename_i hz; exact .inr ⟨hb, hz.1, hz.2, (Option.some.inj h).symm⟩
    · cases h
  · rename_i hc; cases hc
  · cases h

theorem denS_none {id : Nat} {o n : Nat} {x : Value} (h : denS (ρ id) o n none = some x) :
    (∃ b C, ρ id = some (some (b, C)) ∧ o + n ≤ C ∧ x = .slice (some ⟨b, o, none⟩) n (C - o)) ∨ (ρ id = some none ∧ n = 0 ∧ x = .slice none 0 0) := by
  unfold denS at h
  split at h
  · rename_i hc; cases hc
  · rename_i b C hb hc
    split at h
    · rename_i hz; exact .inl ⟨b, C, hb, hz, (Option.some.inj h).symm⟩
    · cases h
  · rename_i hc; cases hc
  · rename_i hb hc
    split at h
    · rename_i hz; exact .inr ⟨hb, hz, (Option.some.inj h).symm⟩
    · cases h
  · cases h

/-- The bounds at the capacity itself. -/
theorem bounds_at {isS : Bool} {len c : Nat} {lo hi : Option Value} {mx : Option LVal} {mx' : Option Value} {l h : Nat} {m : NN} {cap : NN} (q : mx = none → m.v = cap.v) (hc : cap.v = c)
    (hrun : (Instr.sliceBounds isS len c lo hi mx').run P w = .ok (l, h, maxOr mx c m.v) w) : (Instr.sliceBounds isS len c lo hi mx').run P w = .ok (l, h, m.v) w := by
  rw [hrun]
  cases mx with
  | none => simp only [maxOr, q rfl, hc]
  | some _ => rfl

theorem sliceV_den {E : EnvX} (hE : TabOk P E.toEnv) {t : TypeId} {x : LVal} {lo hi mx : Option LVal} {e : Eff} {a : Value} {lo' hi' mx' : Option Value} (h : (sliceV E.toEnv t x lo hi mx).res e) (hx : den ρ x = some a)
    (g1 : denO ρ lo lo') (g2 : denO ρ hi hi') (g3 : denO ρ mx mx') :
    e.wr = [] ∧ e.cnt = 0 ∧ ∃ r, den ρ e.val = some r ∧ (Instr.sliceAt t a lo' hi' mx').run P w = .ok r w := by
  unfold sliceV at h
  split at h
  · rename_i id off
    split at h
    · rename_i n et _ _ _ hr
      have hu := (hE.row _ _ hr).shape
      simp only [shapeP] at hu
      split at h
      · rename_i s hs
        obtain ⟨i, hi, hsz, hrow⟩ := size_row hE hs
        obtain ⟨l, h', m, hk, e1, e2, e3, q2, hrun⟩ := bounds3_res (P := P) (w := w) h g1 g2 g3
        obtain ⟨o, ho, hk⟩ := Tree.res_bind hk
        obtain rfl := hk
        have ho := offAt_some ho
        simp only [den, denP] at hx
        split at hx
        · rename_i b C hb
          obtain rfl := Option.some.inj hx
          refine ⟨rfl, rfl, .slice (some ⟨b, o.v, none⟩) (h'.v - l.v) (m.v - l.v), by simp [eff0, den, denS, hb], ?_⟩
          have hrun := bounds_at q2 rfl (hrun false n (Nat.le_refl _))
          simp only [NN.lit_v] at hrun
          simp only [Instr.sliceAt, Sem.run_bind, run_underlying hu, Result.andThen_ok, Instr.sureAddr, Sem.run_pure, hrun, hrow.run_size, hsz]
          congr 3
          by_cases hml : m.v = l.v
          · rw [if_pos hml] at ho ⊢
            rcases ho with ho | ⟨_, ho⟩ <;> rw [ho]
          · rw [if_neg hml] at ho ⊢
            rw [addr_add]
            rcases ho with ho | ⟨h0, ho⟩
            · rw [ho]
            · rw [ho, h0]; simp
        · cases hx
      · exact h.elim
    · exact h.elim
  · rename_i id off len cap
    split at h
    · rename_i et _ _ _ hr
      have hu := (hE.row _ _ hr).shape
      simp only [shapeP] at hu
      split at h
      · rename_i s hs
        obtain ⟨i, hi, hsz, hrow⟩ := size_row hE hs
        split at h
        · rename_i c
          obtain ⟨l, h', m, hk, e1, e2, e3, q2, hrun⟩ := bounds3_res (P := P) (w := w) h g1 g2 g3
          obtain ⟨o, ho, hk⟩ := Tree.res_bind hk
          obtain rfl := hk
          have ho := offAt_some ho
          have hrun := bounds_at q2 rfl (hrun true c.v (Nat.le_refl _))
          simp only [den, Option.map_some] at hx
          rcases denS_some hx with ⟨b, C, hb, rfl⟩ | ⟨hb, z1, z2, rfl⟩
          · refine ⟨rfl, rfl, .slice (some ⟨b, o.v, none⟩) (h'.v - l.v) (m.v - l.v), by simp [eff0, den, denS, hb], ?_⟩
            simp only [Instr.sliceAt, Instr.slice, Sem.run_bind, run_underlying hu, Result.andThen_ok, hrun, hrow.run_size, hsz, Sem.run_pure]
            congr 3
            by_cases hml : m.v = l.v
            · rw [if_pos hml] at ho ⊢
              rcases ho with ho | ⟨_, ho⟩ <;> rw [ho]
            · rw [if_neg hml] at ho ⊢
              simp only [Option.map_some, addr_add]
              rcases ho with ho | ⟨h0, ho⟩
              · rw [ho]
              · rw [ho, h0]; simp
          · have hm0 : m.v = 0 := by omega
            have hl0 : l.v = 0 := by omega
            have hh0 : h'.v = 0 := by omega
            refine ⟨rfl, rfl, .slice none 0 0, by simp [eff0, den, denS, hb, hm0, hl0, hh0], ?_⟩
            rw [z1, z2, hl0, hh0, hm0] at hrun
            simp [Instr.sliceAt, Instr.slice, run_underlying hu, hrun, hrow.run_size]
        · simp only [den, Option.map_none] at hx
          split at h
          · obtain ⟨l, h', m, hk, e1, e2, e3, q2, hrun⟩ := bounds3_res (P := P) (w := w) h g1 g2 (show denO ρ none mx' from g3)
            obtain rfl := hk
            have hm := q2 rfl
            cases mx' <;> simp only [denO] at g3
            rcases denS_none hx with ⟨b, C, hb, hC, rfl⟩ | ⟨hb, z1, rfl⟩
            · refine ⟨rfl, rfl, _, cutV_den hb hC (by simp only [NN.sub_v]; omega), ?_⟩
              simp only [Instr.sliceAt, Instr.slice, Sem.run_bind, run_underlying hu, Result.andThen_ok, hrun true (C - off.v) (by omega), hrow.run_size, hsz, Sem.run_pure, maxOr, NN.sub_v]
              unfold cutAt
              congr 3
              by_cases hml : C - off.v = l.v
              · rw [if_pos hml, if_pos hml]
              · rw [if_neg hml, if_neg hml]
                simp only [Option.map_some, addr_add, Nat.mul_one]
            · have hl0 : l.v = 0 := by omega
              have hh0 : h'.v = 0 := by omega
              refine ⟨rfl, rfl, .slice none 0 0, cutV_nil hb (by simp only [NN.sub_v]; omega), ?_⟩
              have hrun := hrun true 0 (by omega)
              rw [z1, hl0, hh0] at hrun
              simp only [maxOr] at hrun
              simp [Instr.sliceAt, Instr.slice, run_underlying hu, hrun, hrow.run_size]
          · rename_i q
            obtain ⟨l, h', m, hk, e1, e2, e3, q2, hrun⟩ := bounds3_res (P := P) (w := w) h g1 g2 g3
            obtain ⟨o, ho, hk⟩ := Tree.res_bind hk
            obtain rfl := hk
            have ho := offAt_some ho
            rcases denS_none hx with ⟨b, C, hb, hC, rfl⟩ | ⟨hb, z1, rfl⟩
            · refine ⟨rfl, rfl, .slice (some ⟨b, o.v, none⟩) (h'.v - l.v) (m.v - l.v), by simp [eff0, den, denS, hb], ?_⟩
              simp only [Instr.sliceAt, Instr.slice, Sem.run_bind, run_underlying hu, Result.andThen_ok, hrun true (C - off.v) (by omega), hrow.run_size, hsz, Sem.run_pure, maxOr]
              congr 3
              by_cases hml : m.v = l.v
              · rw [if_pos hml] at ho ⊢
                rcases ho with ho | ⟨_, ho⟩ <;> rw [ho]
              · rw [if_neg hml] at ho ⊢
                simp only [Option.map_some, addr_add]
                rcases ho with ho | ⟨h0, ho⟩
                · rw [ho]
                · rw [ho, h0]; simp
            · have hm0 : m.v = 0 := by omega
              have hl0 : l.v = 0 := by omega
              have hh0 : h'.v = 0 := by omega
              refine ⟨rfl, rfl, .slice none 0 0, by simp [eff0, den, denS, hb, hm0, hl0, hh0], ?_⟩
              have hrun := hrun true 0 (by omega)
              rw [z1] at hrun
              simp only [hl0, hh0, hm0, maxOr] at hrun
              simp [Instr.sliceAt, Instr.slice, run_underlying hu, hrun, hrow.run_size]
          · exact h.elim
      · exact h.elim
    · exact h.elim
  · rename_i id off c len
    split at h
    · rename_i et _ _ _ hr
      have hu := (hE.row _ _ hr).shape
      simp only [shapeP] at hu
      split at h
      · rename_i hs
        obtain ⟨i, hi, hsz, hrow⟩ := size_row hE hs
        obtain ⟨hpos, h⟩ := res_leN h
        simp only [NN.lit_v] at hpos
        obtain ⟨l, h', m, hk, e1, e2, e3, q2, hrun⟩ := bounds3_res (P := P) (w := w) h g1 g2 (show denO ρ none mx' from g3)
        obtain rfl := hk
        have hm := q2 rfl
        cases mx' <;> simp only [denO] at g3
        simp only [den] at hx
        unfold denC at hx
        split at hx
        · rename_i b C hb
          split at hx
          · rename_i hC
            obtain rfl := Option.some.inj hx
            refine ⟨rfl, rfl, _, cutV_den hb (by simp only [NN.add_v]; exact hC) (by simp only [NN.sub_v]; omega), ?_⟩
            rw [if_neg (by omega)]
            simp only [Instr.sliceAt, Instr.slice, Sem.run_bind, run_underlying hu, Result.andThen_ok, hrun true (C - (off.v + c.v)) (by omega), hrow.run_size, hsz, Sem.run_pure, maxOr, NN.sub_v, NN.add_v]
            unfold cutAt
            congr 3
            by_cases hml : C - (off.v + c.v) = l.v
            · rw [if_pos hml, if_pos hml]
            · rw [if_neg hml, if_neg hml]
              simp only [Option.map_some, addr_add, Nat.mul_one]
          · cases hx
        · split at hx
          · rename_i hz; omega
          · cases hx
        · cases hx
      · exact h.elim
    · exact h.elim
  · split at h
    · rename_i et _ _ _ hr
      have hu := (hE.row _ _ hr).shape
      simp only [shapeP] at hu
      split at h
      · rename_i hs
        obtain ⟨i, hi, hsz, hrow⟩ := size_row hE hs
        obtain rfl := Option.some.inj hx
        obtain ⟨l, h', m, hk, e1, e2, e3, q2, hrun⟩ := bounds3_res (P := P) (w := w) h g1 g2 g3
        obtain rfl := hk
        simp only [NN.lit_v] at e3
        have hm0 : m.v = 0 := by omega
        have hl0 : l.v = 0 := by omega
        have hh0 : h'.v = 0 := by omega
        refine ⟨rfl, rfl, .slice none 0 0, rfl, ?_⟩
        have hrun := bounds_at q2 rfl (hrun true 0 (Nat.le_refl _))
        simp only [NN.lit_v, hl0, hh0, hm0] at hrun
        simp [Instr.sliceAt, Instr.slice, run_underlying hu, hrun, hrow.run_size]
      · exact h.elim
    · exact h.elim
  · rename_i s
    split at h
    · rename_i _ _ _ hr
      have hu := (hE.row _ _ hr).shape
      simp only [shapeP] at hu
      split at h
      · obtain rfl := Option.some.inj hx
        obtain ⟨l, h', m, hk, e1, e2, e3, q2, hrun⟩ := bounds3_res (P := P) (w := w) h g1 g2 (show denO ρ none mx' from g3)
        obtain rfl := hk
        cases mx' <;> simp only [denO] at g3
        have hrun := hrun false s.size (Nat.le_refl _)
        simp only [NN.sym_v, maxOr] at hrun
        refine ⟨rfl, rfl, .string (s.extract l.v h'.v), rfl, ?_⟩
        simp [Instr.sliceAt, Instr.slice, run_underlying hu, hrun]
      · exact h.elim
    · exact h.elim
  · exact h.elim


/- Composite values. -/

theorem denC_form {id : Nat} {o l n : Nat} {x : Value} (h : denC (ρ id) o l n = some x) : ∃ ad k cp, x = .slice ad k cp ∧ ∃ ob, ρ id = some ob ∧ ad.isNone = ob.isNone := by
  unfold denC at h
  split at h
  · rename_i hb
    split at h
    · exact ⟨_, _, _, (Option.some.inj h).symm, _, hb, rfl⟩
    · cases h
  · rename_i hb
    split at h
    · exact ⟨_, _, _, (Option.some.inj h).symm, _, hb, rfl⟩
    · cases h
  · cases h

theorem cells_den {v : LVal} {x : Value} (h : den ρ v = some x) (ho : ∀ l, v ≠ .raw l ∨ ∀ c, l ≠ .agg c) : denL ρ v.cells = some x.cells.toList := by
  cases v with
  | agg cs =>
    simp only [den] at h
    split at h
    · rename_i xs hxs
      obtain rfl := Option.some.inj h
      simpa [LVal.cells, Value.cells] using hxs
    · cases h
  | raw l =>
    obtain rfl := Option.some.inj h
    have := (ho l).resolve_left (by simp)
    have hc : l.cells = #[l] := by cases l <;> simp_all [Value.cells]
    simp [LVal.cells, denL, den, hc]
  | int k n => obtain rfl := Option.some.inj h; rfl
  | bool s b => obtain rfl := Option.some.inj h; rfl
  | nilp => obtain rfl := Option.some.inj h; rfl
  | nils => obtain rfl := Option.some.inj h; rfl
  | ptr id off =>
    have h' := h
    simp only [den, denP] at h
    split at h
    · obtain rfl := Option.some.inj h
      simp [LVal.cells, denL, h', Value.cells]
    · cases h
  | slice id off len cap =>
    have h' := h
    simp only [den] at h
    cases hb : ρ id with
    | none => rw [hb] at h; cases cap <;> cases h
    | some ob =>
      rw [hb] at h
      obtain ⟨ad, l, cp, rfl, _⟩ := denS_form h
      simp [LVal.cells, denL, h', Value.cells]
  | cut id off l len =>
    have h' := h
    simp only [den] at h
    obtain ⟨ad, k, cp, rfl, _⟩ := denC_form h
    simp [LVal.cells, denL, h', Value.cells]
  | func fn a b =>
    have h' := h
    simp only [den] at h
    split at h
    · obtain rfl := Option.some.inj h
      simp [LVal.cells, denL, h', Value.cells]
    · cases h
  | tup l =>
    have h' := h
    simp only [den] at h
    split at h
    · obtain rfl := Option.some.inj h
      simp [LVal.cells, denL, h', Value.cells]
    · cases h

/-- No value that stands as it is is an array or a struct. -/
def plainRaw : LVal → Prop
  | .raw (.agg _) => False
  | _ => True

theorem cells_den' {v : LVal} {x : Value} (h : den ρ v = some x) (ho : plainRaw v) : denL ρ v.cells = some x.cells.toList :=
  cells_den h fun l => by
    by_cases e : v = .raw l
    · right
      intro c hc
      subst e; subst hc
      exact ho
    · exact .inl e

end
end Go.LE

/- The local evaluator, part I: composite values, lengths and number conversions. -/
namespace Go.LE
open Go.RowKit

section
variable {P : Program} {w : World} {ρ : Ren}

/-- Values written over others from a place on. -/
def spl {α : Type} (xs : List α) (o : Nat) (ys : List α) : List α := xs.take o ++ ys ++ xs.drop (o + ys.length)

theorem spl_length {α : Type} (xs : List α) (o : Nat) (ys : List α) (h : o + ys.length ≤ xs.length) : (spl xs o ys).length = xs.length := by
  simp [spl]
  omega

theorem spl_get {α : Type} (xs : List α) (o : Nat) (ys : List α) (h : o + ys.length ≤ xs.length) (j : Nat) :
    (spl xs o ys)[j]? = if o ≤ j ∧ j < o + ys.length then ys[j - o]? else xs[j]? := by
  unfold spl
  rw [List.append_assoc, List.getElem?_append]
  simp only [List.length_take, Nat.min_eq_left (show o ≤ xs.length by omega)]
  by_cases h1 : j < o
  · rw [if_pos h1, if_neg (by omega), List.getElem?_take_of_lt h1]
  · rw [if_neg h1, List.getElem?_append]
    by_cases h2 : j - o < ys.length
    · rw [if_pos h2, if_pos (by omega)]
    · rw [if_neg h2, if_neg (by omega), List.getElem?_drop]
      congr 1
      omega

theorem writeL_spec {α : Type} : ∀ {o : Nat} {vs l r : List α}, writeL o vs l = some r → r = spl l o vs ∧ o + vs.length ≤ l.length
  | 0, [], l, r, h => by
    have : r = l := by unfold writeL at h; exact (Option.some.inj h).symm
    subst this
    simp [spl]
  | 0, v :: vs, [], r, h => by simp [writeL] at h
  | 0, v :: vs, a :: l, r, h => by
    simp only [writeL] at h
    split at h
    · rename_i q hq
      obtain rfl := Option.some.inj h
      obtain ⟨h1, h2⟩ := writeL_spec hq
      subst h1
      simp [spl] at h2 ⊢
      omega
    · cases h
  | o + 1, vs, [], r, h => by simp [writeL] at h
  | o + 1, vs, a :: l, r, h => by
    simp only [writeL] at h
    split at h
    · rename_i q hq
      obtain rfl := Option.some.inj h
      obtain ⟨h1, h2⟩ := writeL_spec hq
      subst h1
      refine ⟨?_, by simp; omega⟩
      simp [spl, Nat.add_right_comm]
    · cases h

theorem denL_spl {l vs : List LVal} {xs ys : List Value} {o : Nat} (h1 : denL ρ l = some xs) (h2 : denL ρ vs = some ys) : denL ρ (spl l o vs) = some (spl xs o ys) := by
  have ht : ∀ (n : Nat) (l : List LVal) xs, denL ρ l = some xs → denL ρ (l.take n) = some (xs.take n) := by
    intro n
    induction n with
    | zero => intro l xs _; rfl
    | succ n ih =>
      intro l xs h
      cases l with
      | nil => obtain rfl := Option.some.inj h; rfl
      | cons v l =>
        obtain ⟨x, r, e1, e2, rfl⟩ := denL_cons h
        simp [denL, e1, ih l r e2]
  have hl : ys.length = vs.length := (denL_get h2).1
  unfold spl
  rw [hl]
  refine denL_append (denL_append (ht _ _ _ h1) h2) ?_
  rw [← dropL_spec]
  exact denL_drop h1

theorem foldl_set (o : Nat) : ∀ (l : List Value) (k : Nat) (c : Array Value), o + k + l.length ≤ c.size →
    ((l.zipIdx k).foldl (fun cs (p : Value × Nat) => cs.setIfInBounds (o + p.2) p.1) c).toList = spl c.toList (o + k) l
  | [], k, c, _ => by simp [spl]
  | v :: l, k, c, h => by
    simp only [List.length_cons] at h
    rw [List.zipIdx_cons, List.foldl_cons, foldl_set o l (k + 1) _ (by simp; omega)]
    apply List.ext_getElem?
    intro j
    rw [spl_get _ _ _ (by simp; omega), spl_get _ _ _ (by simp; omega)]
    simp only [Array.toList_setIfInBounds, List.getElem?_set, Array.length_toList, List.length_cons]
    by_cases h1 : j = o + k
    · subst h1
      rw [if_neg (by omega), if_pos rfl, if_pos (by omega), if_pos (by omega)]
      simp
    · by_cases h2 : o + (k + 1) ≤ j ∧ j < o + (k + 1) + l.length
      · rw [if_pos h2, if_pos (by omega), show j - (o + k) = (j - (o + (k + 1))) + 1 by omega]
        simp
      · rw [if_neg h2, if_neg (by omega), if_neg (by omega)]

theorem plain_of_one {v : LVal} (h : allOne v.cells = true) : plainRaw v := by
  unfold plainRaw
  split
  · simp [LVal.cells, allOne, one] at h
  · trivial

theorem one_den {v : LVal} {x : Value} (h : one v = true) (hx : den ρ v = some x) : x.oneCell' = true := by
  cases v with
  | agg cs => simp [one] at h
  | tup l => simp [one] at h
  | raw l => obtain rfl := Option.some.inj hx; cases l <;> simp_all [one, Value.oneCell']
  | int k n => obtain rfl := Option.some.inj hx; rfl
  | bool s b => obtain rfl := Option.some.inj hx; rfl
  | nilp => obtain rfl := Option.some.inj hx; rfl
  | nils => obtain rfl := Option.some.inj hx; rfl
  | ptr id off =>
    simp only [den, denP] at hx
    split at hx
    · obtain rfl := Option.some.inj hx; rfl
    · cases hx
  | slice id off len cap =>
    simp only [den] at hx
    cases hb : ρ id with
    | none => rw [hb] at hx; cases cap <;> cases hx
    | some ob =>
      rw [hb] at hx
      obtain ⟨ad, l, cp, rfl, _⟩ := denS_form hx
      rfl
  | cut id off l len =>
    simp only [den] at hx
    obtain ⟨ad, k, cp, rfl, _⟩ := denC_form hx
    rfl
  | func fn a b =>
    simp only [den] at hx
    split at hx
    · obtain rfl := Option.some.inj hx; rfl
    · cases hx

theorem allOne_den : ∀ {l : List LVal} {xs : List Value}, allOne l = true → denL ρ l = some xs → ∀ x ∈ xs, x.oneCell' = true
  | [], xs, _, h => by obtain rfl := Option.some.inj h; simp
  | v :: l, xs, ho, h => by
    simp only [allOne, Bool.and_eq_true] at ho
    obtain ⟨x, r, h1, h2, rfl⟩ := denL_cons h
    intro y hy
    rcases List.mem_cons.1 hy with rfl | hy
    · exact one_den ho.1 h1
    · exact allOne_den ho.2 h2 y hy

theorem fillL_den {place place' : Nat → Option (Nat × Nat)} (hp : ∀ i, place' i = place i ∨ place i = none) : ∀ {ps : List (Nat × LVal)} {ys : List Value} {cells r : List LVal} {xs : List Value},
    (fillL place cells ps).res r → denL ρ (ps.map (·.2)) = some ys → denL ρ cells = some xs → ∃ zs, denL ρ r = some zs ∧ zs.length = xs.length ∧ Instr.fill place' xs.toArray ((ps.map (·.1)).zip ys) = some zs.toArray
  | [], ys, cells, r, xs, h, _, hx => by
    obtain rfl := h
    exact ⟨xs, hx, rfl, by simp [Instr.fill]⟩
  | (i, v) :: ps, ys, cells, r, xs, h, hy, hx => by
    simp only [fillL] at h
    split at h
    · exact h.elim
    · rename_i off size hpl
      split at h
      · rename_i hlen
        simp only [Bool.and_eq_true] at hlen
        have hlen' := Nat.eq_of_beq_eq_true hlen.1
        split at h
        · rename_i c hc
          obtain ⟨y, q, h1, h2, rfl⟩ := denL_cons hy
          obtain ⟨rfl, hle⟩ := writeL_spec hc
          have hyc := cells_den' h1 (plain_of_one hlen.2)
          have hyl : y.cells.toList.length = v.cells.length := (denL_get hyc).1
          have hxl : xs.length = cells.length := (denL_get hx).1
          obtain ⟨zs, g1, g2, g3⟩ := fillL_den hp h h2 (denL_spl hx hyc)
          refine ⟨zs, g1, by rw [g2, spl_length _ _ _ (by omega)], ?_⟩
          have hpl' : place' i = some (off, size) := by
            rcases hp i with e | e
            · rw [e, hpl]
            · rw [e] at hpl; cases hpl
          simp only [List.map_cons, List.zip_cons_cons, Instr.fill, hpl']
          have hsz : y.cells.size = size := by rw [← Array.length_toList, hyl, hlen']
          have hcond : (decide (y.cells.size ≠ size) || decide (off + y.cells.size > xs.toArray.size)) = false := by
            rw [Array.length_toList] at hyl
            simp [hsz]
            omega
          rw [if_neg (by rw [hcond]; simp)]
          rw [← g3]
          congr 1
          apply Array.ext'
          rw [← Array.foldl_toList, Array.toList_zipIdx, foldl_set off y.cells.toList 0 xs.toArray (by simp; rw [Array.length_toList] at hyl; omega)]
          simp
        · exact h.elim
      · exact h.elim

theorem zeros {t : TypeId} {i : TI} (h : RowOk P t i) : ∃ z zs, (zeroValue t).run P w = .ok z w ∧ z.cells.toList = zs ∧ denL ρ i.zero = some zs ∧ zs.length = i.size ∧ (∀ x ∈ zs, x.oneCell' = true) := by
  obtain ⟨inf, h1, _, _, z, zs, h2, h3, h4, h5, h6⟩ := h.info
  exact ⟨z, zs, by simp [zeroValue, typeInfo, h1, h2], h4, h3 ρ, h5, h6⟩

theorem parts_zip (a : Act) : ∀ (l : List (Nat × Operand)), (l.map (·.1)).zip (l.map fun p => a.eval p.2) = l.map fun (i, x) => (i, a.eval x)
  | [] => rfl
  | (i, x) :: l => by simp [parts_zip a l]

end
end Go.LE

/- The local evaluator, part J: operations that read or write memory. -/
namespace Go.LE
open Go.RowKit

/-- What some writes make of what is known. -/
def mtU (mt : MT) : List HWr → MT
  | [] => mt
  | h :: l => mtU (setN mt h.id (h.blk.map Blk.mt)) l

def inR (_r : Option Nat) (_i : Nat) : Bool := true

def ctW (_ct : CT) (h : HWr) : Nat → Option LVal :=
  match h.blk with
  | some b => contAt b.cont
  | none => fun _ => none

def ctU (ct : CT) : List HWr → CT
  | [] => ct
  | h :: l => ctU (setN ct h.id (ctW ct h)) l

/-- What an operation says of a world. -/
structure OpOut (P : Program) (r : Result Next) (ρ : Ren) (mt : MT) (ct : CT) (w : World) (nid : Nat) (e : Eff) (ρ' : Ren) (x : Value) (w' : World) : Prop where
  run : r = .ok (.value x) w' ∨ (r = .ok .skip w' ∧ x = undef)
  val : den ρ' e.val = some x
  heap : HRel ρ' (mtU mt e.wr) (ctU ct e.wr) w'
  ext : Ext ρ mt w ρ' (mtU mt e.wr) w'
  dom : ∀ id y, ρ' id = some y → ρ id = some y ∨ (nid ≤ id ∧ id < nid + e.cnt)

theorem OpOut.pure {P : Program} {ρ : Ren} {mt : MT} {ct : CT} {w : World} {nid : Nat} {e : Eff} {x : Value} {r : Result Next} (hr : HRel ρ mt ct w) (hw : e.wr = []) (hx : den ρ e.val = some x)
    (hrun : r = .ok (.value x) w) : ∃ ρ' x w', OpOut P r ρ mt ct w nid e ρ' x w' :=
  ⟨ρ, x, w, .inl hrun, hx, by rw [hw]; exact hr, by rw [hw]; exact Ext.refl _ _ _, fun id y h => .inl h⟩

/-- What is known of a block is what the state has of it. -/
def Agree (mt : MT) (ct : CT) (h : Trie Blk) (a : Acc) : Prop := mt a = mtOf h a ∧ ∀ i, inR none i = true → ct a i = ctOf h a i

def LocalW (_h : Trie Blk) (_wr : List HWr) : Prop := True

section
variable {P : Program} {w : World} {ρ : Ren} {mt : MT} {ct : CT}

theorem intsFrom_get (k : IntKind) (l : List Int) : ∀ (n o j : Nat), j < n → (intsFrom k l o n)[j]? = some (symInt k (l.getD (o + j) 0))
  | 0, _, _, h => by omega
  | n + 1, o, 0, _ => rfl
  | n + 1, o, j + 1, h => by
    simp only [intsFrom, List.getElem?_cons_succ]
    rw [intsFrom_get k l n (o + 1) j (by omega), show o + 1 + j = o + (j + 1) by omega]

theorem intsFrom_length (k : IntKind) (l : List Int) : ∀ (n o : Nat), (intsFrom k l o n).length = n
  | 0, _ => rfl
  | n + 1, o => by simp [intsFrom, intsFrom_length k l n (o + 1)]

theorem readC_cont {c : Cont} {off : NN} {n : Nat} {cs : List LVal} (h : (readC c off n).res cs) : cs.length = n ∧ ∀ j, j < n → ∃ v, cs[j]? = some v ∧ contAt c (off.v + j) = some v := by
  unfold readC at h
  simp only [NN.on_v] at h
  split at h
  · rename_i l o
    split at h
    · rename_i r hp
      obtain rfl := h
      obtain ⟨h1, h2⟩ := takeL_drop hp
      refine ⟨h1, fun j hj => ?_⟩
      obtain ⟨v, hv⟩ : ∃ v, r[j]? = some v := ⟨r[j]'(by omega), List.getElem?_eq_getElem (by omega)⟩
      exact ⟨v, hv, by simp only [contAt, NN.lit_v]; rw [← h2 j hj]; exact hv⟩
    · exact h.elim
  · rename_i k l o
    obtain ⟨hn, rfl⟩ := h
    refine ⟨intsFrom_length k l n o, fun j hj => ⟨_, intsFrom_get k l n o j hj, ?_⟩⟩
    simp only [contAt, NN.lit_v]
    rw [List.getElem?_eq_getElem (by omega)]
    simp [symInt, List.getD, List.getElem?_eq_getElem (show o + j < l.length by omega)]
  · rename_i k l o
    split at h
    · obtain ⟨hn, rfl⟩ := h
      refine ⟨rfl, fun j hj => ?_⟩
      obtain rfl : j = 0 := by omega
      refine ⟨_, rfl, ?_⟩
      simp only [contAt, NN.sym_v, Nat.add_zero]
      rw [List.getElem?_eq_getElem hn]
      simp [symInt, List.getD, List.getElem?_eq_getElem hn]
    · exact h.elim
  · rename_i wo l
    split at h
    · rename_i hb
      obtain ⟨he, rfl⟩ := res_eqN h
      have hl := Nat.eq_of_beq_eq_true hb
      refine ⟨hl, fun j hj => ?_⟩
      obtain ⟨v, hv⟩ : ∃ v, l[j]? = some v := ⟨l[j]'(by omega), List.getElem?_eq_getElem (by omega)⟩
      refine ⟨v, hv, ?_⟩
      simp only [contAt]
      rw [if_pos (by omega), show off.v + j - wo.v = j by omega]
      exact hv
    · exact h.elim
  · rename_i wo k l
    split at h
    · obtain ⟨⟨hn1, hn2⟩, rfl⟩ := h
      refine ⟨rfl, fun j hj => ?_⟩
      obtain rfl : j = 0 := by omega
      refine ⟨_, rfl, ?_⟩
      simp only [contAt, Nat.add_zero]
      rw [if_pos hn1, List.getElem?_eq_getElem hn2]
      simp [symInt, List.getD, List.getElem?_eq_getElem hn2]
    · exact h.elim
  · rename_i k m f
    obtain ⟨hle, h⟩ := res_leN h
    obtain rfl := h
    simp only [NN.add_v, NN.lit_v] at hle
    refine ⟨arrFrom_length k f n off.v, fun j hj => ⟨_, arrFrom_get k f n off.v j hj, ?_⟩⟩
    simp only [contAt]
    rw [if_pos (by omega)]
  · exact h.elim

theorem res_okNil {α : Type} {b : Blk} {t : Tree α} {x : α} (h : (okNil b t).res x) : b.nil = false ∧ t.res x := by
  unfold okNil at h
  split at h
  · exact h
  · split at h
    · exact h.elim
    · rename_i hb; exact ⟨hb, h⟩

theorem readC_den (hr : HRel ρ mt ct w) {id : Nat} {m : Mt} {b C : Nat} (hm : mt id = some m) (hρ : ρ id = some (some (b, C))) {c : Cont} {off : NN} {n : Nat} {cs : List LVal}
    (hct : ∀ i, off.v ≤ i → i < off.v + n → ct id i = contAt c i) (h : (readC c off n).res cs) :
    ∃ xs, denL ρ cs = some xs ∧ xs.length = n ∧ ∀ (j : Nat) x, xs[j]? = some x → w.cell? ⟨b, off.v + j, none⟩ = some x ∧ x.oneCell' = true := by
  obtain ⟨h1, h2⟩ := readC_cont h
  have key : ∀ j v, cs[j]? = some v → ∃ x, den ρ v = some x ∧ w.cell? ⟨b, off.v + j, none⟩ = some x ∧ x.oneCell' = true := fun j v hv => by
    have hj : j < n := by rw [← h1]; exact (List.getElem?_eq_some_iff.1 hv).1
    obtain ⟨u, hu, hc⟩ := h2 j hj
    obtain rfl : u = v := by rw [hu] at hv; exact Option.some.inj hv
    exact hr.cell id m b C (off.v + j) u hm hρ (by rw [hct _ (by omega) (by omega)]; exact hc)
  obtain ⟨xs, hxs⟩ := denL_of (ρ := ρ) (l := cs) fun j v hv => let ⟨x, hx, _⟩ := key j v hv; ⟨x, hx⟩
  obtain ⟨g1, g2⟩ := denL_get hxs
  refine ⟨xs, hxs, by omega, fun j x hx => ?_⟩
  have hj : j < cs.length := by rw [← g1]; exact (List.getElem?_eq_some_iff.1 hx).1
  obtain ⟨y, hy, hyd⟩ := g2 j _ (List.getElem?_eq_getElem hj)
  obtain ⟨z, hz, hc⟩ := key j _ (List.getElem?_eq_getElem hj)
  obtain rfl : y = x := by rw [hy] at hx; exact Option.some.inj hx
  obtain rfl : y = z := by rw [hyd] at hz; exact Option.some.inj hz
  exact hc

/-- The block of a number that the state has, in the world. -/
theorem HRel.at (hr : HRel ρ mt ct w) {id : Nat} {b : Blk} {st : Trie Blk} (hb : st.get id = some b) (hm : mt id = mtOf st id) : ∃ ob, ρ id = some ob ∧ b.nil = ob.isNone ∧ mt id = some b.mt := by
  have : mt id = some b.mt := by rw [hm]; simp [mtOf, hb]
  obtain ⟨ob, h1, h2⟩ := hr.blk id _ this
  exact ⟨ob, h1, h2, this⟩

theorem ctOf_at {st : Trie Blk} {id : Nat} {b : Blk} (hb : st.get id = some b) (i : Nat) : ctOf st id i = contAt b.cont i := by simp [ctOf, hb]

/-- A load. -/
theorem loadV_run {E : EnvX} (hE : TabOk P E.toEnv) {st : St} {t : TypeId} {p : LVal} {e : Eff} {a : Value} (h : (loadV E.toEnv st t p).res e) (hp : den ρ p = some a) (hr : HRel ρ mt ct w)
    (hag : ∀ x ∈ e.acc, x < st.nid → Agree mt ct st.hp x) (hfr : ∀ id bk, st.hp.get id = some bk → id < st.nid) : e.wr = [] ∧ e.cnt = 0 ∧ ∃ x, den ρ e.val = some x ∧ (Instr.loadAt t a).run P w = .ok x w := by
  unfold loadV at h
  split at h
  · rename_i id off
    split at h
    · rename_i b hb
      · obtain ⟨hnil, h⟩ := res_okNil h
        split at h
        · rename_i i hi
          have hrow := hE.row _ _ hi
          obtain ⟨cs, hcs, h⟩ := Tree.res_bind h
          simp only [den, denP] at hp
          split at hp
          · rename_i b0 C hρ
            obtain rfl := Option.some.inj hp
            have fin : ∀ a : Acc, Agree mt ct st.hp a → a = id → ∃ xs, denL ρ cs = some xs ∧ xs.length = i.size ∧ ∀ (j : Nat) x, xs[j]? = some x → w.cell? ⟨b0, off.v + j, none⟩ = some x ∧ x.oneCell' = true := fun a ha he => by
              subst he
              obtain ⟨hm, hc⟩ := ha
              obtain ⟨ob, h1, h2, h3⟩ := hr.at hb hm
              exact readC_den hr h3 hρ (fun j hj hj' => by rw [hc j rfl, ctOf_at hb]) hcs
            split at h
            · rename_i hagg
              obtain rfl := h
              obtain ⟨xs, hx, hl, hcell⟩ := fin _ (hag _ (List.mem_singleton.2 rfl) (hfr _ _ hb)) rfl
              refine ⟨rfl, rfl, .agg xs.toArray, by simp [den, hx], ?_⟩
              simp only [Instr.loadAt, Instr.sureAddr, Sem.run_bind, Sem.run_pure, Result.andThen_ok, loadVar, hrow.run_agg, hagg, if_true, hrow.run_size]
              rw [← hl, run_loadCells_list w ⟨b0, off.v, none⟩ xs fun j v hv => by rw [addr_add]; exact (hcell j v hv).1]
              rfl
            · rename_i hagg
              split at h
              · obtain rfl := h
                obtain ⟨xs, hx, hl, hcell⟩ := fin _ (hag _ (List.mem_singleton.2 rfl) (hfr _ _ hb)) rfl
                obtain ⟨x, hx1, rfl⟩ := denL_one hx
                refine ⟨rfl, rfl, x, hx1, ?_⟩
                have hc := (hcell 0 x rfl).1
                simp only [Nat.add_zero] at hc
                simp [Instr.loadAt, Instr.sureAddr, loadVar, hrow.run_agg, hagg, hc]
              · exact h.elim
          · cases hp
        · exact h.elim
    · exact h.elim
  · exact h.elim

theorem writeC_cont {c c' : Cont} {off : NN} {vs : List LVal} (h : (writeC c off vs).res c') :
    (∀ j, j < vs.length → ∃ v, contAt c (off.v + j) = some v) ∧ (∀ i, ¬ (off.v ≤ i ∧ i < off.v + vs.length) → contAt c' i = contAt c i) ∧
    ∀ i v, off.v ≤ i → i < off.v + vs.length → contAt c' i = some v → ∃ u, vs[i - off.v]? = some u ∧ ∀ ρ, den ρ v = den ρ u := by
  unfold writeC at h
  simp only [NN.on_v, LN.on_v] at h
  split at h
  · rename_i l o
    split at h
    · rename_i r hr
      obtain rfl := h
      obtain ⟨rfl, hle⟩ := writeL_spec hr
      refine ⟨fun j hj => ⟨l[o + j]'(by omega), by simp only [contAt, NN.lit_v]; exact List.getElem?_eq_getElem (by omega)⟩, fun i hi => ?_, fun i v h1 h2 hv => ⟨v, ?_, fun _ => rfl⟩⟩
      · simp only [contAt, NN.lit_v] at hi ⊢
        rw [spl_get _ _ _ hle, if_neg hi]
      · simp only [contAt, NN.lit_v] at h1 h2 hv ⊢
        rw [spl_get _ _ _ hle, if_pos ⟨h1, h2⟩] at hv
        exact hv
    · exact h.elim
  · rename_i k l
    split at h
    · rename_i k' n
      split at h
      · rename_i hk
        obtain rfl := of_decide_eq_true hk
        obtain ⟨hlt, rfl⟩ := h
        refine ⟨fun j hj => ?_, fun i hi => ?_, fun i v h1 h2 hv => ⟨.int k n, ?_, fun _ => ?_⟩⟩
        · simp only [List.length_cons, List.length_nil] at hj
          obtain rfl : j = 0 := by omega
          exact ⟨symInt k (l[off.v]'hlt), by simp [contAt, List.getElem?_eq_getElem hlt]⟩
        · simp only [List.length_cons, List.length_nil] at hi
          simp only [contAt]
          rw [List.getElem?_set_ne (by omega)]
        · simp only [List.length_cons, List.length_nil] at h2
          obtain rfl : i = off.v := by omega
          simp
        · simp only [List.length_cons, List.length_nil] at h2
          obtain rfl : i = off.v := by omega
          simp only [contAt, List.getElem?_set_self hlt, Option.map_some, Option.some.injEq] at hv
          subst hv
          rfl
      · exact h.elim
    · exact h.elim
  · rename_i k m f
    split at h
    · rename_i k' x
      split at h
      · rename_i hk
        obtain rfl := of_decide_eq_true hk
        obtain ⟨hle, h⟩ := res_leN h
        obtain rfl := h
        simp only [NN.add_v, NN.lit_v] at hle
        refine ⟨fun j hj => ⟨symInt k (f (off.v + j)), by simp only [contAt]; simp only [List.length_cons, List.length_nil] at hj; rw [if_pos (by omega)]⟩, fun i hi => ?_, fun i v h1 h2 hv => ⟨.int k x, ?_, fun ρ => ?_⟩⟩
        · simp only [List.length_cons, List.length_nil] at hi
          simp only [contAt, upd]
          rw [if_neg (show ¬ i = off.v by omega)]
        · simp only [List.length_cons, List.length_nil] at h2
          obtain rfl : i = off.v := by omega
          simp
        · simp only [List.length_cons, List.length_nil] at h2
          obtain rfl : i = off.v := by omega
          simp only [contAt, upd] at hv
          rw [if_pos (by omega)] at hv
          obtain rfl := Option.some.inj hv
          simp [symInt, den]
      · exact h.elim
    split at h
    · rename_i r hr
      obtain ⟨hle, h⟩ := res_leN h
      obtain rfl := h
      simp only [NN.add_v, NN.lit_v] at hle
      obtain ⟨hlen, _⟩ := intsOf_get (ρ := fun _ => none) hr
      refine ⟨fun j hj => ⟨symInt k (f (off.v + j)), by simp only [contAt]; rw [if_pos (by omega)]⟩, fun i hi => ?_, fun i v h1 h2 hv => ?_⟩
      · simp only [contAt]
        by_cases e : i < m
        · rw [if_pos e, if_pos e, updL_get, dif_neg (by omega)]
        · rw [if_neg e, if_neg e]
      · simp only [contAt] at hv
        rw [if_pos (by omega), updL_get, dif_pos (by omega)] at hv
        obtain rfl := Option.some.inj hv
        have hi : i - off.v < vs.length := by omega
        refine ⟨vs[i - off.v], List.getElem?_eq_getElem hi, fun ρ => ?_⟩
        obtain ⟨n, e1, e2⟩ := (intsOf_get (ρ := ρ) hr).2 (i - off.v) _ (List.getElem?_eq_getElem hi)
        rw [e2]
        rw [List.getElem?_eq_getElem (by omega)] at e1
        rw [← Option.some.inj e1]
        rfl
    · exact h.elim
  · exact h.elim

/-- A store. -/
theorem storeV_run {E : EnvX} (hE : TabOk P E.toEnv) {st : St} {t : TypeId} {p v : LVal} {e : Eff} {a x : Value} (h : (storeV E.toEnv st t p v).res e) (hp : den ρ p = some a) (hv : den ρ v = some x) (hr : HRel ρ mt ct w)
    (hag : ∀ x ∈ e.acc, x < st.nid → Agree mt ct st.hp x) (hfr : ∀ id bk, st.hp.get id = some bk → id < st.nid) (nid : Nat) : (∃ ρ' y w', OpOut P ((do Instr.storeAt t a x; pure .skip : Sem Next).run P w) ρ mt ct w nid e ρ' y w') ∧ LocalW st.hp e.wr := by
  unfold storeV at h
  split at h
  · rename_i id off
    split at h
    · rename_i b hb
      split at h
      · rename_i hown
        split at h
        · rename_i i hi
          have hrow := hE.row _ _ hi
          split at h
          · rename_i hsz
            simp only [Bool.and_eq_true] at hsz
            have hpos := Nat.le_of_ble_eq_true hsz.2
            have hsz := Nat.eq_of_beq_eq_true hsz.1
            split at h
            · rename_i hone
              obtain ⟨c, hc, h⟩ := Tree.res_bind h
              obtain rfl := h
              obtain ⟨w1, w2, w3⟩ := writeC_cont hc
              simp only [den, denP] at hp
              split at hp
              · rename_i b0 C hρ
                obtain rfl := Option.some.inj hp
                obtain ⟨hm, hct⟩ := hag _ (List.mem_singleton.2 rfl) (hfr _ _ hb)
                obtain ⟨ob, h1, h2, h3⟩ := hr.at hb hm
                have hd := cells_den' hv (plain_of_one hone)
                have hl : x.cells.toList.length = i.size := by rw [(denL_get hd).1, hsz]
                have h1c := allOne_den hone hd
                have hlow : off.v + i.size ≤ C := by
                  obtain ⟨u, hu⟩ := w1 (i.size - 1) (by omega)
                  have := hr.low id b.mt b0 C (off.v + (i.size - 1)) u h3 hown hρ (by rw [hct _ rfl, ctOf_at hb]; exact hu)
                  omega
                have hwr := hr.write h3 hown hρ off.v x.cells.toList (ctW ct ⟨id, some { b with cont := c }⟩) (by omega) h1c (fun j u hu => ?_)
                · refine ⟨⟨ρ, undef, w.setCells b0 off.v x.cells.toList, ?_, rfl, ?_, ?_, fun _ _ h => .inl h⟩, ?_⟩
                  · right
                    refine ⟨?_, rfl⟩
                    have hown' := hr.own id b.mt b0 C h3 hown hρ
                    have hrun := run_storeCells_cells (P := P) b0 off.v x.cells.toList 0 w (fun j hj => by simpa using hown'.cell (by omega)) (fun j hj => by simpa using hown'.frozen (by omega)) h1c
                    rw [Nat.add_zero] at hrun
                    have hsz' : ¬ (x.cells.size ≠ i.size) := by rw [← Array.length_toList, hl]; simp
                    simp only [Instr.storeAt, Instr.sureAddr, Sem.run_bind, Sem.run_pure, Result.andThen_ok, storeVar, hrow.run_size, if_neg hsz', Sem.run_ite, hrun]
                  · have he : mtU mt [⟨id, some { b with cont := c }⟩] = mt := by
                      funext j
                      simp only [mtU, setN]
                      split
                      · rename_i e; subst e; rw [h3]; rfl
                      · rfl
                    rw [he]
                    exact hwr.1
                  · have he : mtU mt [⟨id, some { b with cont := c }⟩] = mt := by
                      funext j
                      simp only [mtU, setN]
                      split
                      · rename_i e; subst e; rw [h3]; rfl
                      · rfl
                    rw [he]
                    exact hwr.2
                  · trivial
                · -- what is known of a cell behind the store
                  have hold : ∀ q, ct id j = some q → ∃ y, den ρ q = some y ∧ w.cell? ⟨b0, j, none⟩ = some y ∧ y.oneCell' = true ∧ j < C := fun q hq => by
                    obtain ⟨y, e1, e2, e3⟩ := hr.cell id b.mt b0 C j q h3 hρ hq
                    exact ⟨y, e1, e2, e3, hr.low id b.mt b0 C j q h3 hown hρ hq⟩
                  by_cases hin : off.v ≤ j ∧ j < off.v + i.size
                  · have hu' : contAt c j = some u := hu
                    obtain ⟨q, hq, hden⟩ := w3 j u hin.1 (by omega) hu'
                    obtain ⟨y, hy, hyd⟩ := (denL_get hd).2 _ _ hq
                    exact ⟨y, by rw [hden]; exact hyd, .inr ⟨hin.1, hy⟩⟩
                  · have hct' : ct id j = some u := by
                      have hu : contAt c j = some u := hu
                      rw [w2 j (by rw [hsz]; exact hin)] at hu
                      rw [hct j rfl, ctOf_at hb]
                      exact hu
                    obtain ⟨y, e1, e2, e3, e4⟩ := hold u hct'
                    exact ⟨y, e1, .inl ⟨by omega, e2, e3, e4⟩⟩
              · cases hp
            · exact h.elim
          · exact h.elim
        · exact h.elim
      · exact h.elim
    · exact h.elim
  · exact h.elim

end
end Go.LE

/- The local evaluator, part K: operations that make new blocks. -/
namespace Go.LE
open Go.RowKit

section
variable {P : Program} {w : World} {ρ : Ren} {mt : MT} {ct : CT}

theorem alloc_out (hr : HRel ρ mt ct w) {nid : Nat} (hn : ρ nid = none) (c : Array Value) (te : TypeId) (b : Blk) (v : LVal) (x : Value) (acc : List Acc) {r : Result Next}
    (hnil : b.nil = false) (hsize : ∀ s, b.size.map NN.v = some s → c.size = s) (hcell : ∀ i u, contAt b.cont i = some u → ∃ y, den ρ u = some y ∧ c[i]? = some y ∧ y.oneCell' = true)
    (hv : den (setN ρ nid (some (some (w.heap.size, c.size)))) v = some x) (hrun : r = .ok (.value x) (w.alloc (.cells c te))) :
    ∃ ρ' x w', OpOut P r ρ mt ct w nid ⟨v, [⟨nid, some b⟩], acc, 1⟩ ρ' x w' := by
  obtain ⟨h1, h2⟩ := hr.alloc hn c te b.mt (contAt b.cont) hnil hsize hcell
  refine ⟨_, x, _, .inl hrun, hv, h1, h2, fun id y hy => ?_⟩
  by_cases e : id = nid
  · subst e; exact .inr ⟨Nat.le_refl _, by simp⟩
  · rw [setN_ne _ _ e] at hy; exact .inl hy

theorem contAt_cells {l : List LVal} {xs : List Value} (h : denL ρ l = some xs) (ho : ∀ x ∈ xs, x.oneCell' = true) (i : Nat) (u : LVal) (hu : contAt (.cells l) i = some u) :
    ∃ y, den ρ u = some y ∧ xs.toArray[i]? = some y ∧ y.oneCell' = true := by
  obtain ⟨y, h1, h2⟩ := (denL_get h).2 i u hu
  exact ⟨y, h2, by simpa using h1, ho y (List.mem_of_getElem? h1)⟩

theorem newCells_out (hr : HRel ρ mt ct w) {st : St} (hn : ρ st.nid = none) {l : List LVal} {e : Eff} {xs : List Value} (h : (newCells st l).res e) (hx : denL ρ l = some xs) (te : TypeId) {r : Result Next}
    (hrun : r = .ok (.value (.pointer (some ⟨w.heap.size, 0, none⟩))) (w.alloc (.cells xs.toArray te))) : (∃ ρ' x w', OpOut P r ρ mt ct w st.nid e ρ' x w') ∧ LocalW st.hp e.wr := by
  unfold newCells at h
  split at h
  · rename_i ho
    obtain rfl := h
    refine ⟨alloc_out hr hn xs.toArray te _ _ _ _ rfl (fun s hs => ?_) (contAt_cells hx (allOne_den ho hx)) (by simp [den, denP]) hrun, trivial⟩
    · simp [Blk.new] at hs
      simp [(denL_get hx).1, hs]
  · exact h.elim

theorem repL_get (l : List LVal) (hl : 0 < l.length) : ∀ (n j : Nat), j < n * l.length → (repL n l)[j]? = l[j % l.length]?
  | 0, j, h => by omega
  | n + 1, j, h => by
    rw [repL, List.getElem?_append]
    by_cases hj : j < l.length
    · rw [if_pos hj, Nat.mod_eq_of_lt hj]
    · rw [if_neg hj, repL_get l hl n (j - l.length) (by rw [Nat.add_mul] at h; omega), Nat.mod_eq_sub_mod (a := j) (by omega)]

theorem repL_length (l : List LVal) : ∀ (n : Nat), (repL n l).length = n * l.length
  | 0 => by simp [repL]
  | n + 1 => by simp [repL, repL_length l n, Nat.succ_mul, Nat.add_comm]

/-- The model's way to lay n times the zero cells. -/
def repV (z : Array Value) (n : Nat) : Array Value := (Array.range n).map (fun j => z[j % z.size]!)

theorem repL_den {l : List LVal} {zs : List Value} {z : Array Value} (h : denL ρ l = some zs) (hz : z.toList = zs) (hl : 0 < l.length) (n : Nat) : denL ρ (repL n l) = some (repV z (n * l.length)).toList := by
  have hzl : z.size = l.length := by rw [← Array.length_toList, hz, (denL_get h).1]
  have hd : ∀ n, ∃ xs, denL ρ (repL n l) = some xs := by
    intro n
    induction n with
    | zero => exact ⟨[], rfl⟩
    | succ n ih => obtain ⟨xs, hxs⟩ := ih; exact ⟨_, denL_append h hxs⟩
  obtain ⟨xs, hxs⟩ := hd n
  rw [hxs]
  congr 1
  apply List.ext_getElem?
  intro j
  obtain ⟨g1, g2⟩ := denL_get hxs
  rw [repL_length] at g1
  rcases Nat.lt_or_ge j (n * l.length) with hj | hj
  · have hm : j % l.length < l.length := Nat.mod_lt _ hl
    obtain ⟨y, hy, hyd⟩ := g2 j _ (by rw [repL_get l hl n j hj]; exact List.getElem?_eq_getElem hm)
    obtain ⟨y', hy', hyd'⟩ := (denL_get h).2 (j % l.length) _ (List.getElem?_eq_getElem hm)
    rw [hyd] at hyd'
    obtain rfl := Option.some.inj hyd'
    rw [hy]
    have : z[j % l.length]? = some y := by rw [← hz] at hy'; simpa using hy'
    simp only [repV, Array.toList_map, Array.toList_range, List.getElem?_map, List.getElem?_range hj, Option.map_some]
    rw [hzl, getElem!_def, this]
  · rw [List.getElem?_eq_none (by omega), List.getElem?_eq_none (by simp [repV]; omega)]

theorem newEff_local {st : St} {b : Blk} {v : LVal} {e : Eff} (_h : (newEff st b v).res e) : LocalW st.hp e.wr := trivial

theorem wrap64_small {n : Int} (h0 : 0 ≤ n) (h : n ≤ 140737488355328) : IntKind.i64.wrap n = n := by
  simp [IntKind.wrap, IntKind.bits, IntKind.signed]
  omega

theorem made_zeros (n : Nat) (v : Value) (z : Array Value) (hz : n ≠ 0 → z = #[v]) : (Array.range n).map (fun j => z[j % z.size]!) = Array.replicate n v := by
  apply Array.ext
  · simp
  · intro j h1 h2
    simp only [Array.getElem_map, Array.getElem_range, Array.getElem_replicate]
    simp only [Array.size_map, Array.size_range] at h1
    rw [hz (by omega)]
    simp [Nat.mod_one]

theorem makeV_out {E : EnvX} (hE : TabOk P E.toEnv) (hr : HRel ρ mt ct w) {st : St} (hn : ρ st.nid = none) {t : TypeId} {l c : LVal} {e : Eff} {a b : Value} (h : (makeV E.toEnv st t l c).res e) (ha : den ρ l = some a) (hb : den ρ c = some b) :
    (∃ ρ' x w', OpOut P ((do pure (.value (← Instr.makeSlice t a b)) : Sem Next).run P w) ρ mt ct w st.nid e ρ' x w') ∧ LocalW st.hp e.wr := by
  unfold makeV at h
  split at h
  · rename_i te _ _ _ n m hr1
    have hu := (hE.row _ _ hr1).shape
    simp only [shapeP] at hu
    obtain rfl := Option.some.inj ha
    obtain rfl := Option.some.inj hb
    split at h
    · rename_i k bytes k' hr2
      have hrow := hE.row _ _ hr2
      split at h
      · rename_i hk
        simp only [Bool.and_eq_true] at hk
        obtain rfl := of_decide_eq_true hk.1
        have hby := Nat.le_of_ble_eq_true hk.2
        obtain ⟨h0, h⟩ := res_nonneg h
        obtain ⟨hm0, h⟩ := res_nonneg h
        obtain ⟨h1, h⟩ := res_leN h
        obtain ⟨h2, h⟩ := res_leN h
        simp only [LN.toNN_v, NN.mulc_v, NN.lit_v] at h1 h2
        have hm : m.v.toNat ≤ 140737488355328 := Nat.le_trans (Nat.le_mul_of_pos_right _ hby) h2
        refine ⟨?_, newEff_local h⟩
        obtain rfl := h
        obtain ⟨inf, i1, i2, i3, z, zs, i4, i5, i6, i7, i8⟩ := hrow.info
        have hzs : zs = [.int k 0] := by
          have := i5 ρ
          simp only [denL, den, LN.lit_v, Option.some.injEq] at this
          exact this.symm
        have hzc : z.cells = #[.int k 0] := by
          apply Array.ext'
          rw [i6, hzs]
        have w1 : IntKind.i64.wrap n.v = n.v := wrap64_small h0 (by omega)
        have w2 : IntKind.i64.wrap m.v = m.v := wrap64_small hm0 (by omega)
        have hcap : ¬ ((inf.bytes : Int) * m.v > 2 ^ 48) := by
          have i3' : inf.bytes = bytes := i3
          rw [i3']
          have : ((m.v.toNat * bytes : Nat) : Int) ≤ ((140737488355328 : Nat) : Int) := Int.ofNat_le.2 h2
          rw [Int.natCast_mul, Int.toNat_of_nonneg hm0, Int.mul_comm] at this
          omega
        have hrun : (do pure (.value (← Instr.makeSlice t (.int .i64 n.v) (.int .i64 m.v))) : Sem Next).run P w =
            .ok (.value (.slice (some ⟨w.heap.size, 0, none⟩) n.v.toNat m.v.toNat)) (w.alloc (.cells (Array.replicate m.v.toNat (.int k 0)) te)) := by
          have c1 : (decide (m.v < 0) || decide ((inf.bytes : Int) * m.v > 2 ^ 48) || decide (n.v < 0) || decide (n.v > m.v)) = false := by
            simp only [Bool.or_eq_false_iff, decide_eq_false_iff_not]
            omega
          have hz0 : m.v.toNat ≠ 0 → z.cells = #[.int k 0] := fun _ => hzc
          simp only [Instr.makeSlice, Sem.run_bind, run_underlying hu, Result.andThen_ok, asInt, asIntOf, Sem.run_pure, typeInfo, run_program, i1, w1, w2, c1, Sem.run_ite, if_neg, Bool.false_eq_true, if_false, run_askRoom, sizeOf, i2, Nat.mul_one, zeroValue, i4, newRow, run_newObj, World.alloc_eq]
          by_cases hq : m.v.toNat = 0
          · have he : ∀ f : Nat → Value, Array.map f (Array.range 0) = #[] := fun f => by apply Array.ext <;> simp
            simp [hq, he]
          · simp [hq, made_zeros m.v.toNat (.int k 0) z.cells hz0]
        refine alloc_out hr hn (Array.replicate m.v.toNat (.int k 0)) te _ _ _ _ rfl (fun s hs => ?_) (fun i u hu => ?_) (by simp [den, denS]) hrun
        · simp at hs
          simp [hs]
        · cases m with
          | lit q =>
            simp only [contAt] at hu
            have hi : i < q.toNat := by have := (List.getElem?_eq_some_iff.1 hu).1; rw [repL_length] at this; simpa using this
            rw [repL_get _ (by simp) _ _ (by simpa using hi)] at hu
            simp [Nat.mod_one] at hu
            subst hu
            exact ⟨.int k 0, rfl, by simp [Array.getElem?_replicate, hi], rfl⟩
          | sym q =>
            simp only [contAt] at hu
            rw [List.getElem?_replicate] at hu
            split at hu
            · rename_i hi
              simp at hu
              subst hu
              exact ⟨.int k 0, rfl, by simp [Array.getElem?_replicate, hi], rfl⟩
            · cases hu
      · exact h.elim
    · exact h.elim
  · exact h.elim

end
end Go.LE

/- The local evaluator, part L: what a slice holds; append. -/
namespace Go.LE
open Go.RowKit

def Els.lv : Els → List LVal
  | .vals l => l
  | .ints k l => l.map (symInt k)

section
variable {P : Program} {w : World} {ρ : Ren} {mt : MT} {ct : CT}

theorem elsOf_cont {b : Blk} {off len : NN} {es : Els} (h : (elsOf b off len).res es) : es.lv.length = len.v ∧ ∀ j, j < len.v → ∃ v, es.lv[j]? = some v ∧ contAt b.cont (off.v + j) = some v := by
  unfold elsOf at h
  simp only [NN.on_v] at h
  split at h
  · rename_i l hc
    split at h
    · rename_i o n
      split at h
      · rename_i r hp
        obtain rfl := h
        obtain ⟨h1, h2⟩ := takeL_drop hp
        refine ⟨h1, fun j hj => ?_⟩
        simp only [NN.lit_v] at hj ⊢
        obtain ⟨v, hv⟩ : ∃ v, r[j]? = some v := ⟨r[j]'(by omega), List.getElem?_eq_getElem (by omega)⟩
        exact ⟨v, hv, by rw [hc]; simp only [contAt]; rw [← h2 j hj]; exact hv⟩
      · exact h.elim
    · exact h.elim
  · rename_i k l hc
    obtain ⟨hn, rfl⟩ := h
    refine ⟨by simp [Els.lv, subL]; omega, fun j hj => ?_⟩
    refine ⟨symInt k (l[off.v + j]'(by omega)), ?_, by rw [hc]; simp [contAt, List.getElem?_eq_getElem (show off.v + j < l.length by omega)]⟩
    simp only [Els.lv, subL, List.getElem?_map, List.getElem?_take_of_lt hj, List.getElem?_drop, List.getElem?_eq_getElem (show off.v + j < l.length by omega), Option.map_some]
  · exact h.elim
  · rename_i wo k l hc
    obtain ⟨⟨hn1, hn2⟩, rfl⟩ := h
    refine ⟨by simp [Els.lv, subL]; omega, fun j hj => ?_⟩
    have e : off.v + j - wo.v = off.v - wo.v + j := by omega
    refine ⟨symInt k (l[off.v - wo.v + j]'(by omega)), ?_, by rw [hc]; simp [contAt, e, List.getElem?_eq_getElem (show off.v - wo.v + j < l.length by omega)]; omega⟩
    simp only [Els.lv, subL, List.getElem?_map, List.getElem?_take_of_lt hj, List.getElem?_drop, List.getElem?_eq_getElem (show off.v - wo.v + j < l.length by omega), Option.map_some]
  · rename_i k m f hc
    obtain ⟨hle, h⟩ := res_leN h
    simp only [NN.add_v, NN.lit_v] at hle
    cases len with
    | lit n =>
      obtain rfl := h
      simp only [NN.lit_v] at hle
      refine ⟨arrFrom_length k f n off.v, fun j hj => ⟨_, arrFrom_get k f n off.v j hj, ?_⟩⟩
      rw [hc]
      simp only [contAt]
      have hj : j < n := hj
      rw [if_pos (by omega)]
    | sym n =>
      obtain rfl := h
      simp only [NN.sym_v] at hle
      refine ⟨by simp [Els.lv, rangeF_length], fun j hj => ⟨symInt k (f (off.v + j)), ?_, ?_⟩⟩
      · simp only [Els.lv, List.getElem?_map]
        rw [rangeF_get f n off.v j hj]
        rfl
      · rw [hc]
        simp only [contAt]
        have hj : j < n := hj
        rw [if_pos (by omega)]

theorem elsOf_den (hr : HRel ρ mt ct w) {id : Nat} {m : Mt} {b0 C : Nat} (hm : mt id = some m) (hρ : ρ id = some (some (b0, C))) {b : Blk} {off len : NN} {es : Els}
    (hct : ∀ i, ct id i = contAt b.cont i) (h : (elsOf b off len).res es) :
    ∃ xs, denL ρ es.lv = some xs ∧ xs.length = len.v ∧ ∀ (j : Nat) x, xs[j]? = some x → w.cell? ⟨b0, off.v + j, none⟩ = some x ∧ x.oneCell' = true := by
  obtain ⟨h1, h2⟩ := elsOf_cont h
  have key : ∀ j v, es.lv[j]? = some v → ∃ x, den ρ v = some x ∧ w.cell? ⟨b0, off.v + j, none⟩ = some x ∧ x.oneCell' = true := fun j v hv => by
    have hj : j < len.v := by rw [← h1]; exact (List.getElem?_eq_some_iff.1 hv).1
    obtain ⟨u, hu, hc⟩ := h2 j hj
    obtain rfl : u = v := by rw [hu] at hv; exact Option.some.inj hv
    exact hr.cell id m b0 C (off.v + j) u hm hρ (by rw [hct]; exact hc)
  obtain ⟨xs, hxs⟩ := denL_of (ρ := ρ) (l := es.lv) fun j v hv => let ⟨x, hx, _⟩ := key j v hv; ⟨x, hx⟩
  obtain ⟨g1, g2⟩ := denL_get hxs
  refine ⟨xs, hxs, by omega, fun j x hx => ?_⟩
  have hj : j < es.lv.length := by rw [← g1]; exact (List.getElem?_eq_some_iff.1 hx).1
  obtain ⟨y, hy, hyd⟩ := g2 j _ (List.getElem?_eq_getElem hj)
  obtain ⟨z, hz, hc⟩ := key j _ (List.getElem?_eq_getElem hj)
  obtain rfl : y = x := by rw [hy] at hx; exact Option.some.inj hx
  obtain rfl : y = z := by rw [hyd] at hz; exact Option.some.inj hz
  exact hc

theorem inR_none (i : Nat) : inR none i = true := rfl

/-- The meaning of a slice whose address is known. -/
theorem slice_form {id : Nat} {off len : NN} {cap : Option NN} {a : Value} {b C : Nat} (hρ : ρ id = some (some (b, C))) (h : den ρ (.slice id off len cap) = some a) :
    ∃ cp, a = .slice (some ⟨b, off.v, none⟩) len.v cp ∧ (cap = none → off.v + len.v ≤ C ∧ cp = C - off.v) ∧ (∀ c, cap = some c → cp = c.v) := by
  simp only [den, hρ] at h
  cases cap with
  | none =>
    simp only [Option.map_none, denS] at h
    split at h
    · rename_i hc; exact ⟨_, (Option.some.inj h).symm, fun _ => ⟨hc, rfl⟩, fun _ h => by cases h⟩
    · cases h
  | some c =>
    simp only [Option.map_some, denS] at h
    exact ⟨_, (Option.some.inj h).symm, (fun h => by cases h), fun _ h => by rw [Option.some.inj h]⟩

theorem slice_nil {id : Nat} {off len : NN} {cap : Option NN} {a : Value} (hρ : ρ id = some none) (h : den ρ (.slice id off len cap) = some a) :
    a = .slice none 0 0 ∧ len.v = 0 ∧ ∀ c, cap = some c → c.v = 0 := by
  simp only [den, hρ] at h
  cases cap with
  | none =>
    simp only [Option.map_none, denS] at h
    split at h
    · rename_i hc; exact ⟨(Option.some.inj h).symm, hc, fun _ h => by cases h⟩
    · cases h
  | some c =>
    simp only [Option.map_some, denS] at h
    split at h
    · rename_i hc; exact ⟨(Option.some.inj h).symm, hc.1, fun _ h => by rw [← Option.some.inj h]; exact hc.2⟩
    · cases h

/-- What a slice that is read may mean: where nothing is in it, its address is not told. -/
def SrcForm (ρ : Ren) (ix : Nat) (ox lx : NN) (b : Value) : Prop :=
  (ρ ix = some none → b = .slice none 0 0 ∧ lx.v = 0) ∧ ∀ b1 C1, ρ ix = some (some (b1, C1)) → ∃ o' cp, b = .slice (some ⟨b1, o', none⟩) lx.v cp ∧ (0 < lx.v → o' = ox.v)

theorem src_slice {ix : Nat} {ox lx : NN} {cx : Option NN} {b : Value} (h : den ρ (.slice ix ox lx cx) = some b) : SrcForm ρ ix ox lx b := by
  refine ⟨fun k => ?_, fun b1 C1 k => ?_⟩
  · obtain ⟨e, hl, _⟩ := slice_nil k h
    exact ⟨e, hl⟩
  · obtain ⟨cp, e, _, _⟩ := slice_form k h
    exact ⟨_, cp, e, fun _ => rfl⟩

theorem src_cut {ix : Nat} {ox l lx : NN} {b : Value} (h : den ρ (.cut ix ox l lx) = some b) : SrcForm ρ ix (ox.add l) lx b := by
  simp only [den] at h
  refine ⟨fun k => ?_, fun b1 C1 k => ?_⟩
  · rw [k] at h
    simp only [denC] at h
    split at h
    · rename_i hz; exact ⟨(Option.some.inj h).symm, hz⟩
    · cases h
  · rw [k] at h
    simp only [denC] at h
    split at h
    · rename_i hC
      refine ⟨_, _, (Option.some.inj h).symm, fun h0 => ?_⟩
      rw [if_neg (by omega), NN.add_v]
    · cases h

theorem els_src (hr : HRel ρ mt ct w) {st : St} {id : Nat} {off len : NN} {b : Blk} {es : Els} {a : Value} (hb : st.hp.get id = some b) (he : (elsOf b off len).res es) (hx : SrcForm ρ id off len a)
    (hag : Agree mt ct st.hp id) :
    ∃ xs ad cp, denL ρ es.lv = some xs ∧ (∀ y ∈ xs, y.oneCell' = true) ∧ a = .slice ad xs.length cp ∧ (ad = none → xs = []) ∧
      (∀ n, n ≤ xs.length → ∀ d, (Builtin.firstCells 1 n a).run P { w with drawn := d } = .ok (xs.take n).toArray { w with drawn := d }) := by
  obtain ⟨hm, hct⟩ := hag
  obtain ⟨ob, h1, h2, h3⟩ := hr.at hb hm
  cases ob with
  | none =>
    obtain ⟨rfl, hl⟩ := hx.1 h1
    have := (elsOf_cont he).1
    have he0 : es.lv = [] := List.length_eq_zero_iff.1 (by omega)
    refine ⟨[], none, 0, by rw [he0]; rfl, by simp, rfl, fun _ => rfl, fun n hn d => ?_⟩
    simp at hn
    subst hn
    simp [Builtin.firstCells]
  | some p =>
    obtain ⟨b0, C⟩ := p
    obtain ⟨o', cp, rfl, ho⟩ := hx.2 _ _ h1
    obtain ⟨xs, g1, g2, g3⟩ := elsOf_den hr h3 h1 (fun i => by rw [hct i (inR_none i), ctOf_at hb]) he
    refine ⟨xs, _, cp, g1, fun y hy => ?_, by rw [g2], (fun h => by cases h), fun n hn d => ?_⟩
    · obtain ⟨j, hj⟩ := List.mem_iff_getElem?.1 hy
      exact (g3 j y hj).2
    · simp only [Builtin.firstCells, Nat.mul_one]
      have := run_loadCells_list (P := P) { w with drawn := d } ⟨b0, o', none⟩ (xs.take n) fun j v hv => by
        rw [addr_add]
        have hj : j < n := by have := (List.getElem?_eq_some_iff.1 hv).1; simp at this; omega
        rw [ho (by omega)]
        rw [List.getElem?_take_of_lt hj] at hv
        exact (g3 j v hv).1
      rw [List.length_take, Nat.min_eq_left hn] at this
      exact this

/-- A slice that is read: its values; and the model reads them. -/
theorem sliceEls_den (hr : HRel ρ mt ct w) {st : St} {x : LVal} {es : Els} {acc : List Acc} {a : Value} (h : (sliceEls st x).res (es, acc)) (hx : den ρ x = some a)
    (hag : ∀ y ∈ acc, Agree mt ct st.hp y) :
    ∃ xs ad cp, denL ρ es.lv = some xs ∧ (∀ y ∈ xs, y.oneCell' = true) ∧ a = .slice ad xs.length cp ∧ (ad = none → xs = []) ∧
      (∀ n, n ≤ xs.length → ∀ d, (Builtin.firstCells 1 n a).run P { w with drawn := d } = .ok (xs.take n).toArray { w with drawn := d }) := by
  unfold sliceEls at h
  split at h
  · obtain ⟨rfl, rfl⟩ := Prod.mk.injEq .. ▸ (Tree.res_done.1 h)
    obtain rfl := Option.some.inj hx
    refine ⟨[], none, 0, rfl, by simp, rfl, fun _ => rfl, fun n hn d => ?_⟩
    simp at hn
    subst hn
    simp [Builtin.firstCells]
  · split at h
    · rename_i b hb
      obtain ⟨es', he, h⟩ := Tree.res_bind h
      obtain ⟨rfl, rfl⟩ := Prod.mk.injEq .. ▸ (Tree.res_done.1 h)
      exact els_src hr hb he (src_slice hx) (hag _ (List.mem_singleton.2 rfl))
    · exact h.elim
  · split at h
    · rename_i b hb
      obtain ⟨es', he, h⟩ := Tree.res_bind h
      obtain ⟨rfl, rfl⟩ := Prod.mk.injEq .. ▸ (Tree.res_done.1 h)
      exact els_src hr hb he (src_cut hx) (hag _ (List.mem_singleton.2 rfl))
    · exact h.elim
  · exact h.elim

theorem els_app {a b : Els} {c : Cont} (h : (Els.app a b).res c) {xs ys : List Value} (hx : denL ρ a.lv = some xs) (hy : denL ρ b.lv = some ys) (i : Nat) (u : LVal) (hu : contAt c i = some u) :
    ∃ y, den ρ u = some y ∧ (xs ++ ys)[i]? = some y := by
  have key : ∀ l : List LVal, denL ρ l = some (xs ++ ys) → l[i]? = some u → ∃ y, den ρ u = some y ∧ (xs ++ ys)[i]? = some y := fun l hl hu => by
    obtain ⟨y, h1, h2⟩ := (denL_get hl).2 i u hu
    exact ⟨y, h2, h1⟩
  have hints : ∀ (k : IntKind) (l : List Int), denL ρ (l.map (symInt k)) = some (l.map (Value.int k)) := fun k l => by
    induction l with
    | nil => rfl
    | cons n l ih => simp [denL, ih, symInt, den]
  unfold Els.app at h
  split at h
  · obtain rfl := h
    exact key _ (denL_append hx hy) hu
  · rename_i a k l
    split at h
    · rename_i r hr
      obtain rfl := h
      have hxs := intsOf_den hr hx
      have hys : ys = l.map (Value.int k) := by
        have := hints k l
        simp only [Els.lv] at hy
        rw [hy] at this
        exact Option.some.inj this
      refine key ((r ++ l).map (symInt k)) (by rw [hints, hxs, hys, List.map_append]) (by rw [List.getElem?_map]; exact hu)
    · exact h.elim
  · rename_i k l b
    split at h
    · rename_i r hr
      obtain rfl := h
      have hys := intsOf_den hr hy
      have hxs : xs = l.map (Value.int k) := by
        have := hints k l
        simp only [Els.lv] at hx
        rw [hx] at this
        exact Option.some.inj this
      refine key ((l ++ r).map (symInt k)) (by rw [hints, hxs, hys, List.map_append]) (by rw [List.getElem?_map]; exact hu)
    · exact h.elim
  · rename_i k l k' r
    split at h
    · rename_i hk
      obtain rfl := of_decide_eq_true hk
      obtain rfl := h
      have hxs : xs = l.map (Value.int k) := by
        have := hints k l
        simp only [Els.lv] at hx
        rw [hx] at this
        exact Option.some.inj this
      have hys : ys = r.map (Value.int k) := by
        have := hints k r
        simp only [Els.lv] at hy
        rw [hy] at this
        exact Option.some.inj this
      refine key ((l ++ r).map (symInt k)) (by rw [hints, hxs, hys, List.map_append]) (by rw [List.getElem?_map]; exact hu)
    · exact h.elim

end
end Go.LE

/- The local evaluator, part M: append. -/
namespace Go.LE
open Go.RowKit

section
variable {P : Program} {w : World} {ρ : Ren} {mt : MT} {ct : CT}

/-- The model's append: there is room. -/
theorem run_append_fits {t u e : TypeId} {i : TI} (ht : P.underlying t = some (.slice e)) (hu : ∃ e', P.underlying u = some (.slice e')) (hi : RowOk P e i) (hs : i.size = 1)
    {b o : Nat} {n cp : Nat} {a : Value} {ad : Option Addr} {xs : List Value} {cp' : Nat} (ty : TypeId) (ha : a = .slice ad xs.length cp')
    (hf : (Builtin.firstCells 1 xs.length a).run P w = .ok xs.toArray w) (hn : n + xs.length ≤ cp)
    (hc : ∀ j, j < xs.length → (w.cell? ⟨b, o + n + j, none⟩).isSome = true) (hz : ∀ j, j < xs.length → w.frozen? ⟨b, o + n + j, none⟩ = false) (h1 : ∀ v ∈ xs, v.oneCell' = true) :
    (Builtin.append_ #[t, u] ty #[.slice (some ⟨b, o, none⟩) n cp, a]).run P w = .ok (.slice (some ⟨b, o, none⟩) (n + xs.length) cp) (w.setCells b (o + n) xs) := by
  obtain ⟨e', hu⟩ := hu
  have hst := run_storeCells_cells (P := P) b (o + n) xs 0 w (by simpa using hc) (by simpa using hz) h1
  rw [Nat.add_zero] at hst
  subst ha
  simp only [Builtin.append_, List.getElem?_toArray, List.getElem?_cons_zero, List.getElem?_cons_succ, Sem.run_bind, run_underlying ht, Result.andThen_ok, hi.run_size, hs, run_underlying hu, Sem.run_pure, Bool.false_eq_true, if_false, Sem.run_ite, Builtin.lenOf, if_pos hn, Bool.not_false, if_true, hf, Nat.mul_one, addr_add, hst]

/-- The model's append: nothing to nil. -/
theorem run_append_nil {t u e : TypeId} {i : TI} (ht : P.underlying t = some (.slice e)) (hu : ∃ e', P.underlying u = some (.slice e')) (hi : RowOk P e i) (hs : i.size = 1)
    {a : Value} {ad : Option Addr} {cp' : Nat} (ty : TypeId) (ha : a = .slice ad 0 cp') (hf : (Builtin.firstCells 1 0 a).run P w = .ok #[] w) :
    (Builtin.append_ #[t, u] ty #[.slice none 0 0, a]).run P w = .ok (.slice none 0 0) w := by
  obtain ⟨e', hu⟩ := hu
  subst ha
  simp only [Builtin.append_, List.getElem?_toArray, List.getElem?_cons_zero, List.getElem?_cons_succ, Sem.run_bind, run_underlying ht, Result.andThen_ok, hi.run_size, hs, run_underlying hu, Sem.run_pure, Bool.false_eq_true, if_false, Sem.run_ite, Builtin.lenOf, Nat.add_zero, Nat.le_refl, Bool.not_false, if_true, hf, Nat.mul_one]

/-- The model's append: a new array. -/
theorem run_append_new {t u e : TypeId} {i : TI} (ht : P.underlying t = some (.slice e)) (hu : ∃ e', P.underlying u = some (.slice e')) (hi : RowOk P e i) (hs : i.size = 1) (hby : 1 ≤ i.bytes)
    {s a : Value} {sd ad : Option Addr} {ys xs : List Value} {cp cp' : Nat} (ty : TypeId) (hs' : s = .slice sd ys.length cp) (ha : a = .slice ad xs.length cp')
    (hg : ∀ d, (Builtin.firstCells 1 ys.length s).run P { w with drawn := d } = .ok ys.toArray { w with drawn := d }) (hf : ∀ d, (Builtin.firstCells 1 xs.length a).run P { w with drawn := d } = .ok xs.toArray { w with drawn := d })
    (hn : ¬ (ys.length + xs.length ≤ cp)) (hsz : (ys.length + xs.length) * i.bytes ≤ 140737488355328) :
    ∃ c zs, ys.length + xs.length ≤ c ∧ zs.length = c - (ys.length + xs.length) ∧ (∀ z ∈ zs, z.oneCell' = true) ∧
      (Builtin.append_ #[t, u] ty #[s, a]).run P w = .ok (.slice (some ⟨w.heap.size, 0, none⟩) (ys.length + xs.length) c) (({ w with drawn := w.drawn + 1 } : World).alloc (.cells (ys ++ xs ++ zs).toArray e)) := by
  obtain ⟨e', hu⟩ := hu
  obtain ⟨inf, i1, i2, i3, z, zs, i4, i5, i6, i7, i8⟩ := hi.info
  have hfit := growslice_fits (old := cp) (by omega) hsz
  have hlt : ys.length + xs.length < 2 ^ 63 := by
    have := Nat.le_trans (Nat.le_mul_of_pos_right (ys.length + xs.length) hby) hsz
    omega
  have hzs : z.cells.size = 1 := by rw [← Array.length_toList, i6, i7, hs]
  let q : Question := .appendCap (ys.length + xs.length) cp e
  let c := q.cut (w.tape w.drawn q)
  refine ⟨c, (Builtin.zeroCells z.cells (c - (ys.length + xs.length))).toList, ?_, ?_, ?_, ?_⟩
  · show ys.length + xs.length ≤ (ys.length + xs.length) + _
    omega
  · simp [Builtin.zeroCells, hzs]
  · intro v hv
    simp only [Builtin.zeroCells, Array.toList_map, List.mem_map] at hv
    obtain ⟨j, _, rfl⟩ := hv
    rw [hzs, Nat.mod_one]
    have h0 : z.cells[0]? = some (z.cells[0]'(by omega)) := Array.getElem?_eq_getElem (by omega)
    rw [getElem!_def, h0]
    exact i8 _ (by rw [← i6]; simp)
  · subst hs'; subst ha
    have hb1 : ¬ (((ys.length + xs.length : Nat) : Int) > IntKind.i64.max ∧ (false = true ∨ i.bytes = 0)) := by simp; omega
    have hb2 : ¬ (Builtin.nextslicecap (ys.length + xs.length) cp * i.bytes > 2 ^ 48) := by omega
    have hdraw : ({ w with drawn := w.drawn + 1 } : World) = w.drew := rfl
    have hf' := hf (w.drawn + 1)
    have hg' := hg (w.drawn + 1)
    simp only [Builtin.append_, List.getElem?_toArray, List.getElem?_cons_zero, List.getElem?_cons_succ, Sem.run_bind, run_underlying ht, Result.andThen_ok, hi.run_size, hs, run_underlying hu, Sem.run_pure, Bool.false_eq_true, if_false, Sem.run_ite, Builtin.lenOf, if_neg hn, typeInfo, run_program, i1, i3, false_or, if_neg hb2, run_choose, Question.forced, run_askRoom, hg', hf', zeroValue, i4, newRow, run_newObj]
    rw [if_neg (by intro h; omega)]
    simp only [Bool.not_false, if_true, Result.andThen_ok]
    have hcells : ∀ Z : Array Value, ys.toArray ++ xs.toArray ++ Z = (ys ++ xs ++ Z.toList).toArray := fun Z => by simp
    rw [hcells]
    rfl

theorem HRel.drop (h : HRel ρ mt ct w) (id : Nat) (k : Nat → Option LVal) : HRel ρ (setN mt id none) (setN ct id k) w := by
  have e : ∀ q m, setN mt id none q = some m → q ≠ id ∧ mt q = some m := fun q m hq => by
    by_cases e : q = id
    · subst e; simp at hq
    · rw [setN_ne _ _ e] at hq; exact ⟨e, hq⟩
  refine ⟨fun j m h1 => ?_, fun j m b C h1 h2 => ?_, fun j m b C i v h1 h2 h3 => ?_, fun j m b C h1 h2 h3 => ?_, fun j m b C i v h1 h2 h3 h4 => ?_, fun i j mi mj b C b' C' hij h1 h2 h3 h4 h5 => ?_⟩
  · exact h.blk j m (e j m h1).2
  · exact h.lt j m b C (e j m h1).2 h2
  · obtain ⟨n, h1⟩ := e j m h1; rw [setN_ne _ _ n] at h3; exact h.cell j m b C i v h1 h2 h3
  · exact h.own j m b C (e j m h1).2 h2 h3
  · obtain ⟨n, h1⟩ := e j m h1; rw [setN_ne _ _ n] at h4; exact h.low j m b C i v h1 h2 h3 h4
  · exact h.apart i j mi mj b C b' C' hij (e i mi h1).2 h2 (e j mj h3).2 h4 h5

theorem Ext.drop (id : Nat) : Ext ρ mt w ρ (setN mt id none) w :=
  ⟨.refl _, rfl, rfl, rfl, Nat.le_refl _, fun _ _ _ => rfl, fun q m b C h1 h2 h3 _ => by
    by_cases e : q = id
    · subst e; simp at h1
    · rw [setN_ne _ _ e] at h1; exact ⟨q, m, C, h1, h2, h3⟩⟩

/-- A block under another number. -/
theorem HRel.rename (h : HRel ρ mt ct w) {id n : Nat} (hn : ρ n = none) {m : Mt} {b C : Nat} (hm : mt id = some m) (hρ : ρ id = some (some (b, C))) (ho : m.own = true) (m' : Mt) (k : Nat → Option LVal)
    (hnil : m'.nil = false) (hs : m'.size = none)
    (hk : ∀ i v, k i = some v → ∃ x, den ρ v = some x ∧ w.cell? ⟨b, i, none⟩ = some x ∧ x.oneCell' = true ∧ i < C) :
    HRel (setN ρ n (some (some (b, C)))) (setN (setN mt id none) n (some m')) (setN (setN ct id fun _ => none) n k) w ∧
    Ext ρ mt w (setN ρ n (some (some (b, C)))) (setN (setN mt id none) n (some m')) w := by
  have hown := h.own id m b C hm ho hρ
  refine ⟨(h.drop id _).add hn m' k (some (b, C)) (by simp [hnil]) (fun b' C' e => ?_) (fun b' C' i v e hv => ?_) (fun b' C' e _ => ?_) (fun b' C' i v e _ hv => ?_) (fun b' C' j mj b2 C2 e g1 _ g2 => ?_), ?_⟩
  · simp only [Option.some.injEq, Prod.mk.injEq] at e; obtain ⟨rfl, rfl⟩ := e; exact h.lt id m b C hm hρ
  · simp only [Option.some.injEq, Prod.mk.injEq] at e; obtain ⟨rfl, rfl⟩ := e
    obtain ⟨x, h1, h2, h3, _⟩ := hk i v hv
    exact ⟨x, h1, h2, h3⟩
  · simp only [Option.some.injEq, Prod.mk.injEq] at e; obtain ⟨rfl, rfl⟩ := e
    exact ⟨hown.obj, fun s hs' => by rw [hs] at hs'; cases hs'⟩
  · simp only [Option.some.injEq, Prod.mk.injEq] at e; obtain ⟨rfl, rfl⟩ := e
    exact (hk i v hv).choose_spec.2.2.2
  · simp only [Option.some.injEq, Prod.mk.injEq] at e; obtain ⟨rfl, rfl⟩ := e
    have hj : j ≠ id := fun e => by subst e; simp at g1
    rw [setN_ne _ _ hj] at g1
    exact h.apart id j m mj b C b2 C2 (Ne.symm hj) hm ho g1 hρ g2
  · refine ⟨Sub.setN hn _, rfl, rfl, rfl, Nat.le_refl _, fun _ _ _ => rfl, fun q m1 b' C' g1 g2 g3 hb => ?_⟩
    by_cases e : q = n
    · subst e
      simp only [setN_same, Option.some.injEq, Prod.mk.injEq] at g3
      obtain ⟨rfl, rfl⟩ := g3
      exact ⟨id, m, C, hm, ho, hρ⟩
    · rw [setN_ne _ _ e] at g1 g3
      by_cases e' : q = id
      · subst e'; simp at g1
      · rw [setN_ne _ _ e'] at g1; exact ⟨q, m1, C', g1, g2, g3⟩

theorem setN_setN {α : Type} (f : Nat → α) (n : Nat) (x y : α) : setN (setN f n x) n y = setN f n y := by
  funext i
  simp only [setN]
  split <;> rfl

theorem els_len {es : Els} {xs : List Value} (h : denL ρ es.lv = some xs) : es.len.v = xs.length ∧ (es.isNil = true ↔ xs = []) := by
  have h1 := (denL_get h).1
  cases es with
  | vals l => 
    refine ⟨by simpa [Els.len, Els.lv] using h1.symm, ?_⟩
    simp only [Els.isNil, Els.lv] at h1 ⊢
    rw [List.isEmpty_iff, ← List.length_eq_zero_iff, ← List.length_eq_zero_iff, h1]
  | ints k l =>
    refine ⟨by simpa [Els.len, Els.lv] using h1.symm, ?_⟩
    simp only [Els.isNil, Els.lv, List.length_map] at h1 ⊢
    rw [List.isEmpty_iff, ← List.length_eq_zero_iff, ← List.length_eq_zero_iff, h1]

theorem okCap_res {α : Type} {cap size : Option NN} {k : Tree α} {x : α} (h : (okCap cap size k).res x) : (∀ c, cap = some c → ∃ s, size = some s ∧ c.v = s.v) ∧ k.res x := by
  unfold okCap at h
  split at h
  · exact ⟨fun _ h => (by cases h), h⟩
  · obtain ⟨h1, h2⟩ := res_eqN h
    exact ⟨fun c hc => by obtain rfl := Option.some.inj hc; exact ⟨_, rfl, h1⟩, h2⟩
  · exact h.elim

theorem appendV_out {E : EnvX} (hE : TabOk P E.toEnv) (hr : HRel ρ mt ct w) {st : St} (hn : ρ st.nid = none) {t u e' : TypeId} (hu : P.underlying u = some (.slice e')) {s x : LVal} {e : Eff} {a b : Value} (h : (appendV E.toEnv st t s x).res e) (ha : den ρ s = some a) (hb : den ρ x = some b)
    (hag : ∀ y ∈ e.acc, y < st.nid → Agree mt ct st.hp y) (hfr : ∀ id bk, st.hp.get id = some bk → id < st.nid) (ty : TypeId) :
    (∃ ρ' x w', OpOut P ((do pure (.value (← Builtin.append_ #[t, u] ty #[a, b])) : Sem Next).run P w) ρ mt ct w st.nid e ρ' x w') ∧ LocalW st.hp e.wr := by
  unfold appendV at h
  split at h
  · rename_i te _ _ _ hr1
    have hut := (hE.row _ _ hr1).shape
    simp only [shapeP] at hut
    split at h
    · rename_i ei hr2
      have hrow := hE.row _ _ hr2
      split at h
      · rename_i hsz
        simp only [Bool.and_eq_true] at hsz
        have hby := Nat.le_of_ble_eq_true hsz.2
        have hsz := Nat.eq_of_beq_eq_true hsz.1
        obtain ⟨⟨ex, acx⟩, hex, h⟩ := Tree.res_bind h
        have hacx : ∀ y ∈ acx, y < st.nid := fun y hy => by
          unfold sliceEls at hex
          split at hex
          · obtain ⟨_, rfl⟩ := Prod.mk.injEq .. ▸ (Tree.res_done.1 hex); cases hy
          · split at hex
            · rename_i bk hbk
              obtain ⟨_, _, hex⟩ := Tree.res_bind hex
              obtain ⟨_, rfl⟩ := Prod.mk.injEq .. ▸ (Tree.res_done.1 hex)
              obtain rfl := List.mem_singleton.1 hy
              exact hfr _ _ hbk
            · exact hex.elim
          · split at hex
            · rename_i bk hbk
              obtain ⟨_, _, hex⟩ := Tree.res_bind hex
              obtain ⟨_, rfl⟩ := Prod.mk.injEq .. ▸ (Tree.res_done.1 hex)
              obtain rfl := List.mem_singleton.1 hy
              exact hfr _ _ hbk
            · exact hex.elim
          · exact hex.elim
        split at h
        · obtain ⟨c, hc, h⟩ := Tree.res_bind h
          obtain ⟨hle, h⟩ := res_leN h
          obtain rfl := h
          obtain rfl := Option.some.inj ha
          obtain ⟨xs, ad, cp, hxs, hone, rfl, hnil, hf⟩ := sliceEls_den (P := P) hr hex hb fun y hy => hag y (List.mem_cons_of_mem _ hy) (hacx y hy)
          obtain ⟨hlen, hempty⟩ := els_len hxs
          refine ⟨?_, trivial⟩
          simp only [NN.mulc_v, NN.lit_v, hlen] at hle
          by_cases h0 : xs = []
          · subst h0
            have hrun := run_append_nil (P := P) (w := w) hut ⟨e', hu⟩ hrow hsz ty (a := .slice ad 0 cp) rfl (by simpa using hf 0 (Nat.le_refl _) w.drawn)
            have hin : ex.isNil = true := hempty.2 rfl
            refine ⟨setN ρ st.nid (some none), .slice none 0 0, w, .inl (by simp only [Sem.run_bind, List.length_nil, hrun]; rfl), by simp [den, denS, hlen], ?_, ?_, fun id y hy => ?_⟩
            · have := hr.add hn ⟨true, ex.isNil, none⟩ (contAt c) none (by simp [hin]) (fun _ _ h => by cases h) (fun _ _ _ _ h => by cases h) (fun _ _ h => by cases h) (fun _ _ _ _ h => by cases h) (fun _ _ _ _ _ _ h => by cases h)
              exact this
            · refine ⟨Sub.setN hn _, rfl, rfl, rfl, Nat.le_refl _, fun _ _ _ => rfl, fun q m1 b' C' g1 g2 g3 hb => ?_⟩
              by_cases e : q = st.nid
              · subst e; simp at g3
              · simp only [mtU] at g1; rw [setN_ne _ _ e] at g1 g3; exact ⟨q, m1, C', g1, g2, g3⟩
            · by_cases e : id = st.nid
              · subst e; exact .inr ⟨Nat.le_refl _, by simp⟩
              · rw [setN_ne _ _ e] at hy; exact .inl hy
          · have hpos : 0 < xs.length := List.length_pos_iff.2 h0
            obtain ⟨cc, zs, c1, c2, c3, hrun⟩ := run_append_new (P := P) (w := w) hut ⟨e', hu⟩ hrow hsz hby ty (s := .slice none 0 0) (ys := []) (sd := none) (cp := 0) rfl (a := .slice ad xs.length cp) rfl (fun d => by simp [Builtin.firstCells])
              (fun d => by have := hf xs.length (Nat.le_refl _) d; rwa [List.take_length] at this) (by simp; omega) (by simpa using hle)
            have hin : ex.isNil = false := by
              cases hq : ex.isNil with
              | false => rfl
              | true => exact absurd (hempty.1 hq) h0
            simp only [List.length_nil, Nat.zero_add, List.nil_append] at hrun c1 c2
            have hr' : HRel ρ mt ct { w with drawn := w.drawn + 1 } := hr.drawn rfl
            have hcs : (xs ++ zs).toArray.size = cc := by simp; omega
            obtain ⟨ρ', x', w', ho⟩ := alloc_out (P := P) (r := (do pure (.value (← Builtin.append_ #[t, u] ty #[.slice none 0 0, .slice ad xs.length cp])) : Sem Next).run P w) hr' hn (xs ++ zs).toArray te ⟨true, ex.sym, ex.isNil, none, c⟩ (.slice st.nid (.lit 0) ex.len none) (.slice (some ⟨w.heap.size, 0, none⟩) xs.length cc) (st.nid :: acx) hin (fun _ h => by cases h)
              (fun i q hq => by
                obtain ⟨y, h1, h2⟩ := els_app hc (xs := []) rfl hxs i q hq
                rw [List.nil_append] at h2
                have hi : i < xs.length := (List.getElem?_eq_some_iff.1 h2).1
                exact ⟨y, h1, by simp [List.getElem?_append_left hi, h2], hone y (List.mem_of_getElem? h2)⟩)
              (by rw [hcs]; simp [den, denS, hlen]; omega) (by simp only [Sem.run_bind, hrun]; rfl)
            exact ⟨ρ', x', w', ho.run, ho.val, ho.heap, Ext.drawn.trans ho.ext, ho.dom⟩
        · rename_i id len cap _
          split at h
          · rename_i bk hbk
            split at h
            · rename_i hok
              obtain ⟨hcq, h⟩ := okCap_res h
              obtain ⟨es, hes, h⟩ := Tree.res_bind h
              obtain ⟨c, hc, h⟩ := Tree.res_bind h
              obtain ⟨hle, h⟩ := res_leN h
              obtain rfl := h
              have hidn := hfr _ _ hbk
              obtain ⟨xs, ad, cp, hxs, hone, rfl, hnil, hf⟩ := sliceEls_den (P := P) hr hex hb fun y hy => hag y (List.mem_cons_of_mem _ (List.mem_cons_of_mem _ hy)) (hacx y hy)
              obtain ⟨hlen, hempty⟩ := els_len hxs
              obtain ⟨hm, hct⟩ := hag id (List.mem_cons_self ..) hidn
              obtain ⟨ob, h1, h2, h3⟩ := hr.at hbk hm
              simp only [NN.mulc_v, NN.add_v, NN.lit_v, hlen] at hle
              refine ⟨?_, trivial⟩
              · -- a new array, whatever the old one was
                have grown : ∀ (sd : Option Addr) (ys : List Value) (cs : Nat), a = .slice sd ys.length cs → denL ρ es.lv = some ys → (∀ y ∈ ys, y.oneCell' = true) → ys.length = len.v →
                    (∀ d, (Builtin.firstCells 1 ys.length a).run P { w with drawn := d } = .ok ys.toArray { w with drawn := d }) → ¬ (ys.length + xs.length ≤ cs) → (bk.nil && ex.isNil) = false →
                    ∃ ρ' x w', OpOut P ((do pure (.value (← Builtin.append_ #[t, u] ty #[a, .slice ad xs.length cp])) : Sem Next).run P w) ρ mt ct w st.nid
                      ⟨.slice st.nid (.lit 0) (len.add ex.len) none, [⟨id, none⟩, ⟨st.nid, some ⟨true, bk.nils || bk.nil, bk.nil && ex.isNil, none, c⟩⟩], id :: st.nid :: acx, 1⟩ ρ' x w' := by
                  intro sd ys cs ha' hys hyone hyl hg hno hnil'
                  obtain ⟨cc, zs, c1, c2, c3, hrun⟩ := run_append_new (P := P) (w := w) hut ⟨e', hu⟩ hrow hsz hby ty (s := a) (ys := ys) (sd := sd) (cp := cs) ha' (a := .slice ad xs.length cp) rfl hg
                    (fun d => by have := hf xs.length (Nat.le_refl _) d; rwa [List.take_length] at this) hno (by rw [hyl]; exact hle)
                  have hr' : HRel ρ (setN mt id none) (setN ct id fun _ => none) { w with drawn := w.drawn + 1 } := (hr.drawn (w' := { w with drawn := w.drawn + 1 }) rfl).drop id _
                  have hcs : (ys ++ xs ++ zs).toArray.size = cc := by simp; omega
                  obtain ⟨ρ', x', w', ho⟩ := alloc_out (P := P) (r := (do pure (.value (← Builtin.append_ #[t, u] ty #[a, .slice ad xs.length cp])) : Sem Next).run P w) hr' hn (ys ++ xs ++ zs).toArray te ⟨true, bk.nils || bk.nil, bk.nil && ex.isNil, none, c⟩ (.slice st.nid (.lit 0) (len.add ex.len) none) (.slice (some ⟨w.heap.size, 0, none⟩) (ys.length + xs.length) cc) (id :: st.nid :: acx) hnil' (fun _ h => by cases h)
                    (fun i q hq => by
                      obtain ⟨y, e1, e2⟩ := els_app hc hys hxs i q hq
                      have hi : i < (ys ++ xs).length := (List.getElem?_eq_some_iff.1 e2).1
                      exact ⟨y, e1, by simp only [List.getElem?_toArray]; rw [List.getElem?_append_left hi]; exact e2, by
                        rcases List.mem_append.1 (List.mem_of_getElem? e2) with hm' | hm'
                        · exact hyone y hm'
                        · exact hone y hm'⟩)
                    (by rw [hcs]; simp [den, denS, hlen, hyl]; omega) (by simp only [Sem.run_bind, hrun]; rfl)
                  exact ⟨ρ', x', w', ho.run, ho.val, ho.heap, (Ext.drawn.trans (Ext.drop id)).trans ho.ext, ho.dom⟩
                cases ob with
                | none =>
                  obtain ⟨rfl, hl0, _⟩ := slice_nil h1 ha
                  have hes0 : es.lv = [] := List.length_eq_zero_iff.1 (by have := (elsOf_cont hes).1; omega)
                  have hbn : bk.nil = true := h2
                  by_cases h0 : xs = []
                  · subst h0
                    have hrun := run_append_nil (P := P) (w := w) hut ⟨e', hu⟩ hrow hsz ty (a := .slice ad 0 cp) rfl (by simpa using hf 0 (Nat.le_refl _) w.drawn)
                    have hin : ex.isNil = true := hempty.2 rfl
                    refine ⟨setN ρ st.nid (some none), .slice none 0 0, w, .inl (by simp only [Sem.run_bind, List.length_nil, hrun]; rfl), by simp [den, denS, hlen, hl0], ?_, ?_, fun id y hy => ?_⟩
                    · exact (hr.drop id _).add hn ⟨true, bk.nil && ex.isNil, none⟩ (contAt c) none (by simp [hin, hbn]) (fun _ _ h => by cases h) (fun _ _ _ _ h => by cases h) (fun _ _ h => by cases h) (fun _ _ _ _ h => by cases h) (fun _ _ _ _ _ _ h => by cases h)
                    · refine (Ext.drop id).trans ⟨Sub.setN hn _, rfl, rfl, rfl, Nat.le_refl _, fun _ _ _ => rfl, fun q m1 b' C' g1 g2 g3 hb => ?_⟩
                      by_cases e : q = st.nid
                      · subst e; simp at g3
                      · simp only [mtU] at g1; rw [setN_ne _ _ e] at g1 g3; exact ⟨q, m1, C', g1, g2, g3⟩
                    · by_cases e : id = st.nid
                      · subst e; exact .inr ⟨Nat.le_refl _, by simp⟩
                      · rw [setN_ne _ _ e] at hy; exact .inl hy
                  · have hpos : 0 < xs.length := List.length_pos_iff.2 h0
                    have hin : ex.isNil = false := by
                      cases hq : ex.isNil with
                      | false => rfl
                      | true => exact absurd (hempty.1 hq) h0
                    exact grown none [] 0 rfl (by rw [hes0]; rfl) (by simp) (by simp [hl0]) (fun d => by simp [Builtin.firstCells]) (by simp; omega) (by simp [hin])
                | some p =>
                  obtain ⟨b0, C⟩ := p
                  obtain ⟨cs, rfl, hcap1, hcap2⟩ := slice_form h1 ha
                  obtain ⟨ys, g1, g2, g3⟩ := elsOf_den hr h3 h1 (fun i => by rw [hct i (inR_none i), ctOf_at hbk]) hes
                  simp only [NN.lit_v, Nat.zero_add] at g3
                  have hbn : bk.nil = false := h2
                  have hyone : ∀ y ∈ ys, y.oneCell' = true := fun y hy => by
                    obtain ⟨j, hj⟩ := List.mem_iff_getElem?.1 hy
                    exact (g3 j y hj).2
                  have hcsC : cs = C := by
                    cases cap with
                    | none => rw [(hcap1 rfl).2]; simp
                    | some cq =>
                      obtain ⟨sz, hq1, hq2⟩ := hcq cq rfl
                      rw [hcap2 cq rfl, hq2]
                      exact ((hr.own id bk.mt b0 C h3 hok h1).size sz.v (by simp [Blk.mt, hq1])).symm
                  by_cases hfit : ys.length + xs.length ≤ cs
                  · have hown := hr.own id bk.mt b0 C h3 hok h1
                    have hrun := run_append_fits (P := P) (w := w) hut ⟨e', hu⟩ hrow hsz (b := b0) (o := 0) (n := ys.length) (cp := cs) ty (a := .slice ad xs.length cp) rfl (by have := hf xs.length (Nat.le_refl _) w.drawn; rwa [List.take_length] at this) hfit
                      (fun j hj => hown.cell (by omega)) (fun j hj => hown.frozen (by omega)) hone
                    rw [Nat.zero_add] at hrun
                    have hwr := hr.write h3 hok h1 ys.length xs (contAt c) (by omega) hone (fun i v hv => by
                      obtain ⟨y, e1, e2⟩ := els_app hc g1 hxs i v hv
                      refine ⟨y, e1, ?_⟩
                      rw [List.getElem?_append] at e2
                      split at e2
                      · rename_i hi
                        obtain ⟨q1, q2⟩ := g3 i y e2
                        exact .inl ⟨.inl hi, q1, q2, by omega⟩
                      · exact .inr ⟨by omega, e2⟩)
                    have hren := hwr.1.rename hn h3 h1 hok ⟨true, bk.nil && ex.isNil, none⟩ (contAt c) (by simp [hbn]) rfl (fun i v hv => by
                      obtain ⟨y, q1, q2, q3⟩ := hwr.1.cell id bk.mt b0 C i v h3 h1 (by rw [setN_same]; exact hv)
                      exact ⟨y, q1, q2, q3, hwr.1.low id bk.mt b0 C i v h3 hok h1 (by rw [setN_same]; exact hv)⟩)
                    rw [setN_setN] at hren
                    refine ⟨_, .slice (some ⟨b0, 0, none⟩) (ys.length + xs.length) cs, _, .inl (by rw [← g2]; simp only [NN.lit_v, Sem.run_bind, hrun]; rfl), ?_, hren.1, hwr.2.trans hren.2, fun q y hy => ?_⟩
                    · simp only [den, setN_same, Option.map_none, denS, NN.lit_v, NN.add_v, hlen, Nat.zero_add, Nat.sub_zero]
                      rw [if_pos (by omega), hcsC, g2]
                    · by_cases e : q = st.nid
                      · subst e; exact .inr ⟨Nat.le_refl _, by simp⟩
                      · rw [setN_ne _ _ e] at hy; exact .inl hy
                  · refine grown _ ys cs (by rw [g2]) g1 hyone g2 (fun d => ?_) hfit (by simp [hbn])
                    simp only [Builtin.firstCells, Nat.mul_one]
                    have := run_loadCells_list (P := P) { w with drawn := d } ⟨b0, 0, none⟩ ys fun j v hv => by
                      rw [addr_add, Nat.zero_add]
                      exact (g3 j v hv).1
                    exact this
            · exact h.elim
          · exact h.elim
        · exact h.elim
      · exact h.elim
    · exact h.elim
  · exact h.elim

end
end Go.LE
