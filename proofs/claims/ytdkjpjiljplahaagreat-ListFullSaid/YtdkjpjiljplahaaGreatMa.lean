/- The symbolic executor, part 1: expressions, values, what a symbolic state says of a world. Nothing here is a claim. -/
import Derived.WalkKit
import Derived.OrdersHeld
import Derived.KernelRfl
import Derived.Laws.StructEq
import Derived.Deep.AppendSrc
namespace Go.Sx
open Go
set_option linter.unusedSimpArgs false

/-! ### Expressions -/
inductive O1 | not | conv (k : IntKind) | nat | lenI | lenB | zerosI | zerosB | lenR (sz : Nat) | b2i
  deriving DecidableEq, Repr
inductive O2 | arith (op : BinOp) (k : IntKind) | bits (op : BinOp) (k : IntKind) | div (op : BinOp) (k : IntKind) | shift (op : BinOp) (k : IntKind)
  | eql | lss | beq | min | max | nthI | nthB | inI | inB | nthR (sz fo : Nat) | nthRb (sz fo : Nat) | inR (sz fo : Nat) | snoc | cat
  deriving DecidableEq, Repr
inductive O3 | setI | setB | setR (sz fo : Nat)
  deriving DecidableEq, Repr

inductive E where
  | var (i : Nat)
  | int (n : Int)
  | bool (b : Bool)
  | o1 (o : O1) (a : E)
  | o2 (o : O2) (a b : E)
  | o3 (o : O3) (a b c : E)
  | f1 (s : Nat) (a : E)
  | f2 (s : Nat) (a b : E)
  | f3 (s : Nat) (a b c : E)
  | f4 (s : Nat) (a b c d : E)
  deriving Repr

/-- the same, as the kernel may reckon it fast -/
def E.same (x : E) : E → Bool :=
  match x with
  | .var i => fun y => match y with | .var j => Nat.beq i j | _ => false
  | .int i => fun y => match y with | .int j => decide (i = j) | _ => false
  | .bool i => fun y => match y with | .bool j => i == j | _ => false
  | .o1 o a => fun y => match y with | .o1 o' a' => decide (o = o') && a.same a' | _ => false
  | .o2 o a b => fun y => match y with | .o2 o' a' b' => decide (o = o') && (a.same a' && b.same b') | _ => false
  | .o3 o a b c => fun y => match y with | .o3 o' a' b' c' => decide (o = o') && (a.same a' && (b.same b' && c.same c')) | _ => false
  | .f1 o a => fun y => match y with | .f1 o' a' => Nat.beq o o' && a.same a' | _ => false
  | .f2 o a b => fun y => match y with | .f2 o' a' b' => Nat.beq o o' && (a.same a' && b.same b') | _ => false
  | .f3 o a b c => fun y => match y with | .f3 o' a' b' c' => Nat.beq o o' && (a.same a' && (b.same b' && c.same c')) | _ => false
  | .f4 o a b c d => fun y => match y with | .f4 o' a' b' c' d' => Nat.beq o o' && (a.same a' && (b.same b' && (c.same c' && d.same d'))) | _ => false

theorem E.same_iff (x : E) : ∀ y, x.same y = true ↔ x = y := by
  induction x <;> intro y <;> cases y <;> simp_all [E.same]
instance : DecidableEq E := fun a b => if h : a.same b = true then isTrue ((E.same_iff a b).1 h) else isFalse fun e => h ((E.same_iff a b).2 e)

inductive G (U : Type) where
  | int (n : Int)
  | bool (b : Bool)
  | ints (l : List Int)
  | bools (l : List Bool)
  | u (x : U)
  | obj (x : Obj)

namespace G
variable {U : Type}
def toInt : G U → Int | .int n => n | _ => 0
def toBool : G U → Bool | .bool b => b | _ => false
def toInts : G U → List Int | .ints l => l | _ => []
def toBools : G U → List Bool | .bools l => l | _ => []
def toObj : G U → Option Obj | .obj x => some x | _ => none
@[simp] theorem toInt_int (n : Int) : (G.int n : G U).toInt = n := rfl
@[simp] theorem toBool_bool (b : Bool) : (G.bool b : G U).toBool = b := rfl
@[simp] theorem toInts_ints (l : List Int) : (G.ints l : G U).toInts = l := rfl
@[simp] theorem toBools_bools (l : List Bool) : (G.bools l : G U).toBools = l := rfl
end G

def b2z (b : Bool) : Int := if b then 1 else 0
def arithInt (op : BinOp) (k : IntKind) (x y : Int) : Int :=
  match op with | .add => k.wrap (x + y) | .sub => k.wrap (x - y) | .mul => k.wrap (x * y) | _ => 0
def bitsInt (op : BinOp) (k : IntKind) (x y : Int) : Int :=
  let a := BitVec.ofInt k.bits x
  let b := BitVec.ofInt k.bits y
  match op with
  | .and => k.wrap (a &&& b).toNat | .or => k.wrap (a ||| b).toNat | .xor => k.wrap (a ^^^ b).toNat | .andNot => k.wrap (a &&& ~~~b).toNat | _ => 0
def divInt (op : BinOp) (k : IntKind) (x y : Int) : Int :=
  match op with | .quo => k.wrap (x.tdiv y) | .rem => x.tmod y | _ => 0
def shiftInt (op : BinOp) (k : IntKind) (x y : Int) : Int :=
  match op with | .shl => k.wrap (x * 2 ^ (min y.toNat k.bits)) | .shr => x.fdiv (2 ^ (min y.toNat k.bits)) | _ => 0

/-- What the caller of the executor brings: functions on its own data, predicates on its own pieces of memory. -/
structure Sig (U : Type) where
  f1 : Nat → G U → G U
  f2 : Nat → G U → G U → G U
  f3 : Nat → G U → G U → G U → G U
  f4 : Nat → G U → G U → G U → G U → G U
  res : Nat → G U → Nat → Array Obj → (Nat → Prop) → Prop
  loc : ∀ k g r (h h' : Array Obj) (D D' : Nat → Prop), (∀ b, b < h.size → D b → D' b ∧ h'[b]? = h[b]?) → res k g r h D → res k g r h' D'

variable {U : Type}

def O1.ap (o : O1) (a : G U) : G U :=
  match o with
  | .not => .bool (!a.toBool) | .conv k => .int (k.wrap a.toInt) | .nat => .int (a.toInt.toNat : Int)
  | .lenI => .int (a.toInts.length : Int) | .lenB => .int (a.toBools.length : Int)
  | .zerosI => .ints (List.replicate a.toInt.toNat 0) | .zerosB => .bools (List.replicate a.toInt.toNat false)
  | .lenR sz => .int ((a.toInts.length / sz : Nat) : Int) | .b2i => .int (b2z a.toBool)
def O2.ap (o : O2) (a b : G U) : G U :=
  match o with
  | .arith op k => .int (arithInt op k a.toInt b.toInt)
  | .bits op k => .int (bitsInt op k a.toInt b.toInt)
  | .div op k => .int (divInt op k a.toInt b.toInt)
  | .shift op k => .int (shiftInt op k a.toInt b.toInt)
  | .eql => .bool (a.toInt == b.toInt)
  | .lss => .bool (decide (a.toInt < b.toInt))
  | .beq => .bool (a.toBool == b.toBool)
  | .min => .int (if b.toInt < a.toInt then b.toInt else a.toInt)
  | .max => .int (if b.toInt > a.toInt then b.toInt else a.toInt)
  | .nthI => .int (a.toInts.getD b.toInt.toNat 0)
  | .nthB => .bool (a.toBools.getD b.toInt.toNat false)
  | .inI => .bool (decide (b.toInt.toNat < a.toInts.length))
  | .inB => .bool (decide (b.toInt.toNat < a.toBools.length))
  | .nthR sz fo => .int (a.toInts.getD (b.toInt.toNat * sz + fo) 0)
  | .nthRb sz fo => .bool (!(a.toInts.getD (b.toInt.toNat * sz + fo) 0 == 0))
  | .inR sz fo => .bool (decide (b.toInt.toNat * sz + fo < a.toInts.length))
  | .snoc => .ints (a.toInts ++ [b.toInt])
  | .cat => .ints (a.toInts ++ b.toInts)
def O3.ap (o : O3) (a b c : G U) : G U :=
  match o with
  | .setI => .ints (a.toInts.set b.toInt.toNat c.toInt)
  | .setB => .bools (a.toBools.set b.toInt.toNat c.toBool)
  | .setR sz fo => .ints (a.toInts.set (b.toInt.toNat * sz + fo) c.toInt)

def E.den (S : Sig U) (v : Nat → G U) : E → G U
  | .var i => v i
  | .int n => .int n
  | .bool b => .bool b
  | .o1 o a => o.ap (a.den S v)
  | .o2 o a b => o.ap (a.den S v) (b.den S v)
  | .o3 o a b c => o.ap (a.den S v) (b.den S v) (c.den S v)
  | .f1 s a => S.f1 s (a.den S v)
  | .f2 s a b => S.f2 s (a.den S v) (b.den S v)
  | .f3 s a b c => S.f3 s (a.den S v) (b.den S v) (c.den S v)
  | .f4 s a b c d => S.f4 s (a.den S v) (b.den S v) (c.den S v) (d.den S v)

/-! smart constructors -/
def mk1 (o : O1) (a : E) : E :=
  match o, a with
  | .not, .bool b => .bool (!b)
  | .not, .o1 .not (.o2 .eql x y) => .o2 .eql x y
  | .not, .o1 .not (.o2 .lss x y) => .o2 .lss x y
  | .not, .o1 .not (.o2 .beq x y) => .o2 .beq x y
  | .conv k, .int n => .int (k.wrap n)
  | .nat, .int n => .int (n.toNat : Int)
  | o, a => .o1 o a
def mk2 (o : O2) (a b : E) : E :=
  match o, a, b with
  | .arith op k, .int x, .int y => .int (arithInt op k x y)
  | .bits op k, .int x, .int y => .int (bitsInt op k x y)
  | .div op k, .int x, .int y => .int (divInt op k x y)
  | .shift op k, .int x, .int y => .int (shiftInt op k x y)
  | .eql, .int x, .int y => .bool (x == y)
  | .lss, .int x, .int y => .bool (decide (x < y))
  | .beq, .bool x, .bool y => .bool (x == y)
  | .min, .int x, .int y => .int (if y < x then y else x)
  | .max, .int x, .int y => .int (if y > x then y else x)
  | o, a, b => .o2 o a b

theorem den_mk1 (S : Sig U) (v : Nat → G U) (o : O1) (a : E) : (mk1 o a).den S v = o.ap (a.den S v) := by
  unfold mk1
  split <;> simp [E.den, O1.ap, O2.ap]

theorem den_mk2 (S : Sig U) (v : Nat → G U) (o : O2) (a b : E) : (mk2 o a b).den S v = o.ap (a.den S v) (b.den S v) := by
  unfold mk2
  split <;> first | rfl | simp [E.den, O2.ap]

/-! ### Values -/
inductive S1 where
  | int (k : IntKind) (e : E)
  | bool (e : E)
  | nilp
  | ptr (id : Nat) (off : E)
  | nils
  | slice (id : Nat) (off len cap : E)
  | niface
  | ifp (t : Nat) (id : Nat) (off : E)
  | fn (f : Nat)
  | opq (i : Nat)
  /-- an interface value that holds a nil pointer -/
  | ifn (t : Nat)
  /-- a slice that is the whole of a block; its capacity is the number that is bound to cid -/
  | vec (id cid : Nat) (len : E)
  | chn (id : Nat)
  /-- a function with one captured reference, or bound to one; none: the nil pointer -/
  | clo (f : Nat) (bound : Bool) (x : Option Nat)
  /-- the address of a cell of a record: where the row begins, which record, how many cells a record has, which of them -/
  | rp (id : Nat) (o i : E) (sz fo : Nat)
  deriving DecidableEq, Repr

inductive S2 where
  | c (x : S1)
  | agg (l : List S1)
  deriving DecidableEq, Repr

inductive SV where
  | one (x : S2)
  | tup (l : List S2)
  deriving DecidableEq, Repr

def SV.undef : SV := .tup []
/-- stands for whatever value; it is never read -/
def SV.any : SV := .tup [.agg [], .agg []]
def SV.isAny : SV → Bool
  | .tup [.agg [], .agg []] => true
  | _ => false

structure Env (U : Type) where
  v : Nat → G U
  rho : Nat → Nat
  om : Nat → Value
  om1 : ∀ i, (om i).oneCell' = true

section den
variable (S : Sig U) (n : Env U)
def S1.den : S1 → Value
  | .int k e => .int k (e.den S n.v).toInt
  | .bool e => .bool (e.den S n.v).toBool
  | .nilp => .pointer none
  | .ptr id off => .pointer (some ⟨n.rho id, (off.den S n.v).toInt.toNat, none⟩)
  | .nils => .slice none 0 0
  | .slice id off len cap => .slice (some ⟨n.rho id, (off.den S n.v).toInt.toNat, none⟩) (len.den S n.v).toInt.toNat (cap.den S n.v).toInt.toNat
  | .niface => .nilIface
  | .ifp t id off => .iface t (.pointer (some ⟨n.rho id, (off.den S n.v).toInt.toNat, none⟩))
  | .fn f => .func (.func f) #[] #[]
  | .opq i => n.om i
  | .ifn t => .iface t (.pointer none)
  | .vec id cid len => .slice (some ⟨n.rho id, 0, none⟩) (len.den S n.v).toInt.toNat (n.rho cid)
  | .chn id => .chan (some (n.rho id))
  | .clo f true (some id) => .func (.func f) #[.pointer (some ⟨n.rho id, 0, none⟩)] #[]
  | .clo f false (some id) => .func (.func f) #[] #[.pointer (some ⟨n.rho id, 0, none⟩)]
  | .clo f true none => .func (.func f) #[.pointer none] #[]
  | .clo f false none => .func (.func f) #[] #[.pointer none]
  | .rp id o i sz fo => .pointer (some ⟨n.rho id, (o.den S n.v).toInt.toNat + ((i.den S n.v).toInt.toNat * sz + fo), none⟩)
def cellsDen (l : List S1) : List Value := l.map (S1.den S n)
def S2.den : S2 → Value
  | .c x => x.den S n
  | .agg l => .agg (cellsDen S n l).toArray
def SV.den : SV → Value
  | .one x => x.den S n
  | .tup l => .tuple (l.map (S2.den S n)).toArray
end den

theorem S1.cell1 (S : Sig U) (n : Env U) (x : S1) : (x.den S n).oneCell' = true := by
  cases x
  case clo f b y => cases b <;> cases y <;> simp only [S1.den, Value.oneCell']
  all_goals simp only [S1.den, Value.oneCell']
  exact n.om1 _

/-! ### Memory -/
inductive RK | int (k : IntKind) | bool
  deriving DecidableEq, Repr

inductive Blk where
  | cells (l : List S1)
  | row (k : RK) (g : E)
  | res (k : Nat) (g : E)
  /-- a row of records that may grow; the capacity is bound to cid -/
  | vec (cid : Nat) (ks : List RK) (g : E)
  /-- a channel with room for so many numbers -/
  | chan (cap g : E)
  /-- a row of records that came in: it stays what it was -/
  | inp (ks : List RK) (off g x : E)
  deriving DecidableEq, Repr

abbrev SH := List (Nat × Blk)

def SH.get (H : SH) (id : Nat) : Option Blk := (H.find? (fun p => p.1 == id)).map (·.2)
def SH.put (H : SH) (id : Nat) (b : Blk) : SH := H.map fun p => if p.1 == id then (id, b) else p
/-- Kept by falling numbers. -/
def SH.new (H : SH) (id : Nat) (b : Blk) : SH := H.filter (fun p => decide (id < p.1)) ++ (id, b) :: H.filter (fun p => decide (p.1 < id))

def rowVals (k : RK) (g : G U) : List Value :=
  match k with
  | .int k => g.toInts.map (Value.int k)
  | .bool => g.toBools.map Value.bool

def valK : RK → Int → Value
  | .int k, n => .int k n
  | .bool, n => .bool (!(n == 0))
def cellOf (ks : List RK) (j : Nat) (n : Int) : Value := valK (ks.getD (j % ks.length) .bool) n
/-- records, one behind the other -/
def recVals (ks : List RK) (l : List Int) : List Value := l.zipIdx.map fun p => cellOf ks p.2 p.1
def objCells : Obj → List Value
  | .cells cs _ _ => cs.toList
  | _ => []
section sat
variable (S : Sig U) (n : Env U) (o : Nat → Nat) (h : Array Obj)
def Blk.holds (id : Nat) : Blk → Prop
  | .cells l => o (n.rho id) = id ∧ ∃ ty, h[n.rho id]? = some (.cells (cellsDen S n l).toArray ty (0, 0))
  | .row k g => o (n.rho id) = id ∧ ∃ ty, h[n.rho id]? = some (.cells (rowVals k (g.den S n.v)).toArray ty (0, 0))
  | .res k g => S.res k (g.den S n.v) (n.rho id) h (fun b => o b = id)
  | .vec cid ks g => o (n.rho id) = id ∧ 0 < ks.length ∧ (g.den S n.v).toInts.length % ks.length = 0 ∧
      ∃ ty rest, h[n.rho id]? = some (.cells (recVals ks (g.den S n.v).toInts ++ rest).toArray ty (0, 0)) ∧ (g.den S n.v).toInts.length + rest.length = n.rho cid * ks.length
  | .chan cap g => o (n.rho id) = id ∧ ∃ s r, h[n.rho id]? = some (.chan (cap.den S n.v).toInt.toNat ((g.den S n.v).toInts.map (Value.int .i64)).toArray false s r false)
  | .inp ks off g x => o (n.rho id) = id ∧ 0 < ks.length ∧ (g.den S n.v).toInts.length % ks.length = 0 ∧ ∃ ob, (x.den S n.v).toObj = some ob ∧ h[n.rho id]? = some ob ∧
      ∀ j v, (recVals ks (g.den S n.v).toInts)[j]? = some v → (objCells ob)[(off.den S n.v).toInt.toNat + j]? = some v
def Sat (H : SH) : Prop := ∀ p ∈ H, 0 < p.1 ∧ p.2.holds S n o h p.1
end sat

/-- What is coloured 0 is as it was; the streams too. -/
structure Fr (w : World) (o : Nat → Nat) (w' : World) (o' : Nat → Nat) : Prop where
  os : w'.os = w.os
  tape : w'.tape = w.tape
  output : w'.output = w.output
  size : w.heap.size ≤ w'.heap.size
  same : ∀ b, b < w.heap.size → o b = 0 → o' b = 0 ∧ w'.heap[b]? = w.heap[b]?

theorem Fr.refl (w : World) (o : Nat → Nat) : Fr w o w o := ⟨rfl, rfl, rfl, Nat.le_refl _, fun _ _ h => ⟨h, rfl⟩⟩
theorem Fr.trans {a b c : World} {x y z : Nat → Nat} (h : Fr a x b y) (k : Fr b y c z) : Fr a x c z :=
  ⟨k.os.trans h.os, k.tape.trans h.tape, k.output.trans h.output, Nat.le_trans h.size k.size, fun i hi h0 => by
    obtain ⟨h1, h2⟩ := h.same i hi h0
    obtain ⟨h3, h4⟩ := k.same i (Nat.lt_of_lt_of_le hi h.size) h1
    exact ⟨h3, h4.trans h2⟩⟩

/-- The same meaning of what is numbered below m. -/
structure Ext (m : Nat) (n n' : Env U) : Prop where
  v : n'.v = n.v
  om : n'.om = n.om
  rho : ∀ i, i < m → n'.rho i = n.rho i

theorem Ext.refl (m : Nat) (n : Env U) : Ext m n n := ⟨rfl, rfl, fun _ _ => rfl⟩
theorem Ext.trans {m m' : Nat} {a b c : Env U} (h : Ext m a b) (k : Ext m' b c) (hm : m ≤ m') : Ext m a c :=
  ⟨k.v.trans h.v, k.om.trans h.om, fun i hi => (k.rho i (Nat.lt_of_lt_of_le hi hm)).trans (h.rho i hi)⟩

/-! numbers of blocks that stand in a value -/
def S1.lt (m : Nat) : S1 → Bool
  | .ptr id _ | .slice id _ _ _ | .ifp _ id _ | .chn id | .clo _ _ (some id) | .rp id _ _ _ _ => decide (id < m)
  | .vec id cid _ => decide (id < m) && decide (cid < m)
  | _ => true
def S2.lt (m : Nat) : S2 → Bool
  | .c x => x.lt m
  | .agg l => l.all (S1.lt m)
def SV.lt (m : Nat) : SV → Bool
  | .one x => x.lt m
  | .tup l => l.all (S2.lt m)
def Blk.lt (m : Nat) : Blk → Bool
  | .cells l => l.all (S1.lt m)
  | .vec cid _ _ => decide (cid < m)
  | _ => true
def SH.lt (m : Nat) (H : SH) : Bool := H.all fun p => decide (p.1 < m) && p.2.lt m

/-! does a number stand in it? -/
def S1.ne (m : Nat) : S1 → Bool
  | .ptr id _ | .slice id _ _ _ | .ifp _ id _ | .chn id | .clo _ _ (some id) | .rp id _ _ _ _ => !(id == m)
  | .vec id cid _ => !(id == m) && !(cid == m)
  | _ => true
def S2.ne (m : Nat) : S2 → Bool
  | .c x => x.ne m
  | .agg l => l.all (S1.ne m)
def SV.ne (m : Nat) : SV → Bool
  | .one x => x.ne m
  | .tup l => l.all (S2.ne m)
def Blk.ne (m : Nat) : Blk → Bool
  | .cells l => l.all (S1.ne m)
  | .vec cid _ _ => !(cid == m)
  | _ => true
def SH.ne (m : Nat) (H : SH) : Bool := H.all fun p => !(p.1 == m) && p.2.ne m

/-- The environment with one more block. -/
def Env.bind (n : Env U) (i r : Nat) : Env U := { n with rho := fun j => if j = i then r else n.rho j }

theorem Env.bind_ext (n : Env U) (i r : Nat) : Ext i n (n.bind i r) := ⟨rfl, rfl, fun j hj => by simp only [Env.bind]; rw [if_neg (by omega)]⟩

section bind
variable {S : Sig U} {n : Env U} {m r : Nat}
theorem S1.den_bind {x : S1} (hx : x.ne m = true) : x.den S (n.bind m r) = x.den S n := by
  cases x
  case clo f b y => cases b <;> cases y <;> simp [S1.den, S1.ne, Env.bind] at * <;> simp [hx]
  all_goals simp [S1.den, S1.ne, Env.bind] at * <;> simp [hx]
theorem cellsDen_bind {l : List S1} (hl : l.all (S1.ne m) = true) : cellsDen S (n.bind m r) l = cellsDen S n l := by
  simp only [cellsDen]
  exact List.map_congr_left fun x hx => S1.den_bind (List.all_eq_true.1 hl x hx)
theorem S2.den_bind {x : S2} (hx : x.ne m = true) : x.den S (n.bind m r) = x.den S n := by
  cases x with
  | c x => exact S1.den_bind hx
  | agg l => simp only [S2.den]; rw [cellsDen_bind hx]
theorem SV.den_bind {x : SV} (hx : x.ne m = true) : x.den S (n.bind m r) = x.den S n := by
  cases x with
  | one x => exact S2.den_bind hx
  | tup l =>
    simp only [SV.den]
    rw [List.map_congr_left fun x hx' => S2.den_bind (List.all_eq_true.1 hx x hx')]
theorem SVs.den_bind {l : List SV} (hl : l.all (SV.ne m) = true) : l.map (SV.den S (n.bind m r)) = l.map (SV.den S n) :=
  List.map_congr_left fun x hx => SV.den_bind (List.all_eq_true.1 hl x hx)
end bind

section ext
variable {S : Sig U} {m : Nat} {n n' : Env U}
theorem S1.den_ext (h : Ext m n n') {x : S1} (hx : x.lt m = true) : x.den S n' = x.den S n := by
  cases x
  case clo f b y => cases b <;> cases y <;> simp [S1.den, S1.lt, h.v, h.om] at * <;> (try rw [h.rho _ hx])
  case vec id cid len => simp [S1.den, S1.lt, h.v] at *; rw [h.rho _ hx.1, h.rho _ hx.2]; exact ⟨rfl, rfl⟩
  all_goals simp [S1.den, S1.lt, h.v, h.om] at * <;> (try rw [h.rho _ hx])
theorem cellsDen_ext (h : Ext m n n') {l : List S1} (hl : l.all (S1.lt m) = true) : cellsDen S n' l = cellsDen S n l := by
  simp only [cellsDen]
  exact List.map_congr_left fun x hx => S1.den_ext h (List.all_eq_true.1 hl x hx)
theorem S2.den_ext (h : Ext m n n') {x : S2} (hx : x.lt m = true) : x.den S n' = x.den S n := by
  cases x with
  | c x => exact S1.den_ext h hx
  | agg l => simp only [S2.den]; rw [cellsDen_ext h hx]
theorem SV.den_ext (h : Ext m n n') {x : SV} (hx : x.lt m = true) : x.den S n' = x.den S n := by
  cases x with
  | one x => exact S2.den_ext h hx
  | tup l =>
    simp only [SV.den]
    rw [List.map_congr_left fun x hx' => S2.den_ext h (List.all_eq_true.1 hx x hx')]
theorem SVs.den_ext (h : Ext m n n') {l : List SV} (hl : l.all (SV.lt m) = true) : l.map (SV.den S n') = l.map (SV.den S n) :=
  List.map_congr_left fun x hx => SV.den_ext h (List.all_eq_true.1 hl x hx)
end ext

end Go.Sx

/- The symbolic executor, part 2: what one operation does to a symbolic state. -/
namespace Go.Sx
open Go

/-! ### What is known of types and functions -/
inductive TD | bool | int (k : IntKind) | slice (e : Nat) | array (n e : Nat) | struct (fs : List (Nat × Nat)) | ptr (e : Nat) | iface | other
  deriving DecidableEq, Repr

def slim : TypeDesc → TD
  | .bool => .bool | .int k => .int k | .slice e => .slice e | .array n e => .array n e
  | .struct fs => .struct (fs.toList.map fun f => (f.offset, f.type))
  | .pointer e => .ptr e | .interface _ => .iface | _ => .other

def S1.ofValue : Value → Option S1
  | .int k n => some (.int k (.int n))
  | .bool b => some (.bool (.bool b))
  | .pointer none => some .nilp
  | .slice none 0 0 => some .nils
  | .nilIface => some .niface
  | _ => none
def S1.ofValues : List Value → Option (List S1)
  | [] => some []
  | v :: l => match S1.ofValue v, S1.ofValues l with
    | some x, some r => some (x :: r)
    | _, _ => none
def S2.ofValue : Value → Option S2
  | .agg cs => (S1.ofValues cs.toList).map .agg
  | v => (S1.ofValue v).map .c

structure TI where
  td : TD
  size : Nat
  bytes : Nat
  zero : Option S2
  /-- methods without a path: name, function, whether its receiver is a pointer -/
  mth : List (String × Option (Nat × Bool))
  deriving DecidableEq, Repr

def mthOf (m : Method) : String × Option (Nat × Bool) := (m.name, if m.path.isEmpty then m.func else none)

def tinfo (P : Program) (t : TypeId) : Option TI :=
  match P.info? t, P.underlying t with
  | some i, some d => some ⟨slim d, i.size, i.bytes, i.zero.bind S2.ofValue, i.methods.toList.map mthOf⟩
  | _, _ => none

structure FI where
  ntmps : Nat
  results : List ResultVar
  body : Code

structure Tab where
  ti : Nat → Option TI
  fi : Nat → Option FI
  /-- structs that may be compared -/
  eqs : List Nat

/-- May values of a struct's type be compared, field by field? -/
def eqB (P : Program) (t : TypeId) : Bool :=
  !P.stoodInHeld t && !P.eqGuardType P.depth t && match P.underlying t with
  | some (.struct fs) => fs.toList.all fun f => f.name != "_"
  | _ => false

def Tab.td (T : Tab) (t : Nat) : Option TD := (T.ti t).map TI.td

structure Tab.ok (T : Tab) (P : Program) : Prop where
  ti : ∀ t i, T.ti t = some i → tinfo P t = some i
  fi : ∀ f i, T.fi f = some i → ∃ fn, P.funcs[f]? = some fn ∧ fn.name ≠ "runtime.NumGoroutine" ∧ fn.body = some i.body ∧ fn.ntmps = i.ntmps ∧ fn.results.toList = i.results
  mixed : P.follows .mixedOrders = true
  eqs : ∀ t ∈ T.eqs, eqB P t = true

/-! ### Paths -/
abbrev Path := List (E × Bool)

/-- Is a number known to be another one? -/
def otherI (pa : Path) (a : E) (k : Int) : Bool := pa.any fun x =>
  match x with
  | (.o2 .eql b (.int j), true) => b == a && !(decide (j = k))
  | _ => false
def known (pa : Path) (e : E) : Option Bool :=
  match pa.find? fun x => x.1 == e with
  | some x => some x.2
  | none =>
    match e with
    | .o2 .eql a (.int k) => match otherI pa a k with | true => some false | false => none
    | _ => none
/-- Is it known, on this way? -/
def dec (pa : Path) : E → Option Bool
  | .bool b => some b
  | .o1 .not a => (dec pa a).map (!·)
  | e => known pa e
/-- What must be asked. -/
def base : E → E
  | .o1 .not a => base a
  | e => e

inductive OR where
  | no
  | fail
  | skip
  | fork (e : E)
  | val (v : SV)
  | ld (v : SV)
  | eff (v : SV) (H : SH) (nx : Nat)
  | call (f : Nat) (args : List SV)

/-- b must hold: else it fails. -/
def need (pa : Path) (b : E) (k : OR) : OR :=
  match dec pa b with
  | some true => k
  | some false => .fail
  | none => .fork (base b)

def evx (tm : List SV) : Operand → Option SV
  | .tmp t => match (tm.getD t SV.undef).isAny with | true => none | false => some (tm.getD t SV.undef)
  | .const v => (S2.ofValue v).map .one
  | .func f => some (.one (.c (.fn f)))
  | .global _ => none

def isConst : Operand → Bool
  | .const _ => true
  | _ => false

def bv (e : E) : OR := .val (.one (.c (.bool e)))
def iv (k : IntKind) (e : E) : OR := .val (.one (.c (.int k e)))

def intx (pa : Path) (op : BinOp) (k k' : IntKind) (a b : E) : OR :=
  match op with
  | .shl | .shr => need pa (mk1 .not (mk2 .lss b (.int 0))) (iv k (mk2 (.shift op k) a b))
  | .add | .sub | .mul => if k = k' then iv k (mk2 (.arith op k) a b) else .no
  | .and | .or | .xor | .andNot => if k = k' then iv k (mk2 (.bits op k) a b) else .no
  | .quo | .rem => if k = k' then need pa (mk1 .not (mk2 .eql b (.int 0))) (iv k (mk2 (.div op k) a b)) else .no
  | .eql => if k = k' then bv (mk2 .eql a b) else .no
  | .neq => if k = k' then bv (mk1 .not (mk2 .eql a b)) else .no
  | .lss => if k = k' then bv (mk2 .lss a b) else .no
  | .leq => if k = k' then bv (mk1 .not (mk2 .lss b a)) else .no
  | .gtr => if k = k' then bv (mk2 .lss b a) else .no
  | .geq => if k = k' then bv (mk1 .not (mk2 .lss a b)) else .no

/-- Are two references the same? (nil against what is not) -/
def sameRef : S1 → S1 → Option Bool
  | .nilp, .nilp => some true
  | .nilp, .ptr _ _ | .ptr _ _, .nilp => some false
  | .nils, .nils => some true
  | .nils, .slice _ _ _ _ | .slice _ _ _ _, .nils => some false
  | .niface, .ifp _ _ _ | .ifp _ _ _, .niface => some false
  | .niface, .ifn _ | .ifn _, .niface => some false
  | .nils, .vec _ _ _ | .vec _ _ _, .nils => some false
  | _, _ => none
def refKind : S1 → Option TD
  | .nilp | .ptr _ _ => some (.ptr 0)
  | .nils | .slice _ _ _ _ | .vec _ _ _ => some (.slice 0)
  | .niface | .ifp _ _ _ | .ifn _ => some .iface
  | _ => none
def tdKind : TD → TD
  | .ptr _ => .ptr 0
  | .slice _ => .slice 0
  | t => t

/-- Fields, one behind the other: are they the same? -/
def eqFs (T : Tab) (pa : Path) (neg : Bool) (a b : List S1) : List (Nat × Nat) → OR
  | [] => bv (.bool (!neg))
  | (off, ft) :: r =>
    match T.td ft, a[off]?, b[off]? with
    | some (.int _), some (.int k x), some (.int k' y) =>
      if k = k' then
        match dec pa (mk2 .eql x y) with
        | some true => eqFs T pa neg a b r
        | some false => bv (.bool neg)
        | none => .fork (base (mk2 .eql x y))
      else .no
    | some .bool, some (.bool x), some (.bool y) =>
      match dec pa (mk2 .beq x y) with
      | some true => eqFs T pa neg a b r
      | some false => bv (.bool neg)
      | none => .fork (base (mk2 .beq x y))
    | _, _, _ => .no

def binx (T : Tab) (pa : Path) (op : BinOp) (xt : TypeId) (x y : SV) : OR :=
  match x, y with
  | .one (.c (.int k a)), .one (.c (.int k' b)) => intx pa op k k' a b
  | .one (.c (.bool a)), .one (.c (.bool b)) =>
    match T.td xt, op with
    | some .bool, .eql => bv (mk2 .beq a b)
    | some .bool, .neq => bv (mk1 .not (mk2 .beq a b))
    | _, _ => .no
  | .one (.c a), .one (.c b) =>
    match sameRef a b, (T.td xt).map tdKind, op with
    | some r, some t, .eql => if refKind a = some t then bv (.bool r) else .no
    | some r, some t, .neq => if refKind a = some t then bv (.bool (!r)) else .no
    | _, _, _ => .no
  | .one (.agg a), .one (.agg b) =>
    if T.eqs.contains xt then
      match T.td xt, op with
      | some (.struct fs), .eql => eqFs T pa false a b fs
      | some (.struct fs), .neq => eqFs T pa true a b fs
      | _, _ => .no
    else .no
  | _, _ => .no

def unx (op : UnOp) (x : SV) : OR :=
  match op, x with
  | .neg, .one (.c (.int k a)) => iv k (mk2 (.arith .sub k) (.int 0) a)
  | .xor, .one (.c (.int k a)) => iv k (mk2 (.bits .xor k) (.int (if k.signed then -1 else k.max)) a)
  | .not, .one (.c (.bool a)) => bv (mk1 .not a)
  | _, _ => .no

def isAggT : TD → Bool
  | .struct _ | .array _ _ => true
  | _ => false

/-- A part of a row of cells. -/
def partx (T : Tab) (t : TypeId) (l : List S1) (off : Nat) : Option S2 :=
  match T.ti t with
  | some i => if isAggT i.td then some (.agg ((l.drop off).take i.size)) else (l[off]?).map .c
  | none => none

/-- a cell of a record -/
def cellAt (ks : List RK) (g i : E) (fo : Nat) : S1 :=
  match ks.getD (fo % ks.length) .bool with
  | .int k => .int k (.o2 (.nthR ks.length fo) g i)
  | .bool => .bool (.o2 (.nthRb ks.length fo) g i)
/-- Is it one of the records? -/
def inRec (pa : Path) (sz : Nat) (g i : E) (k : OR) : OR := need pa (mk1 .not (mk2 .lss i (.int 0))) (need pa (mk2 .lss i (.o1 (.lenR sz) g)) k)
def recs : Blk → Option (List RK × E × E)
  | .vec _ ks g => some (ks, .int 0, g)
  | .inp ks off g _ => some (ks, off, g)
  | _ => none
/-- so many cells of a record, from one on -/
def recLoad (pa : Path) (b : Blk) (o i : E) (sz fo : Nat) (ti : TI) : OR :=
  match recs b with
  | some (ks, off, g) =>
    if ks.length = sz ∧ o = off ∧ fo + ti.size ≤ sz ∧ 0 < ti.size then
      inRec pa sz g i (if isAggT ti.td then .ld (.one (.agg ((List.range ti.size).map fun j => cellAt ks g i (fo + j)))) else (if ti.size = 1 then .ld (.one (.c (cellAt ks g i fo))) else .no))
    else .no
  | none => .no

def loadx (T : Tab) (pa : Path) (H : SH) (t : TypeId) (x : SV) : OR :=
  match x, T.ti t with
  | .one (.c (.rp id o i sz fo)), some ti =>
    match H.get id with
    | some b => recLoad pa b o i sz fo ti
    | none => .no
  | .one (.c (.ptr id off)), some i =>
    match H.get id with
    | some (.cells l) =>
      match off with
      | .int o =>
        if isAggT i.td then (if o.toNat + i.size ≤ l.length then .ld (.one (.agg ((l.drop o.toNat).take i.size))) else .no)
        else match l[o.toNat]? with
          | some c => .ld (.one (.c c))
          | none => .no
      | _ => .no
    | some (.row k g) =>
      if isAggT i.td then .no else
      match k with
      | .int k => need pa (mk2 .inI g off) (.ld (.one (.c (.int k (mk2 .nthI g off)))))
      | .bool => need pa (mk2 .inB g off) (.ld (.one (.c (.bool (mk2 .nthB g off)))))
    | _ => .no
  | _, _ => .no

/-- The cells of a value. -/
def cellsx : SV → Option (List S1)
  | .one (.c x) => some [x]
  | .one (.agg l) => some l
  | .tup _ => none

def cellE : RK → S1 → Option E
  | .int k, .int k' e => if k = k' then some e else none
  | .bool, .bool e => some (.o1 .b2i e)
  | _, _ => none
/-- cells laid into a record, from one on -/
def setRs (ks : List RK) (i : E) (sz : Nat) : Nat → E → List S1 → Option E
  | _, g, [] => some g
  | fo, g, x :: l =>
    match cellE (ks.getD (fo % ks.length) .bool) x with
    | some e => setRs ks i sz (fo + 1) (.o3 (.setR sz fo) g i e) l
    | none => none
def recStore (pa : Path) (H : SH) (nx id : Nat) (i : E) (sz fo : Nat) (vs : List S1) : Blk → OR
  | .vec cid ks g =>
    if ks.length = sz ∧ fo + vs.length ≤ sz then
      match setRs ks i sz fo g vs with
      | some g' => inRec pa sz g i (.eff SV.undef (H.put id (.vec cid ks g')) nx)
      | none => .no
    else .no
  | _ => .no

def storex (T : Tab) (pa : Path) (H : SH) (nx : Nat) (t : TypeId) (x v : SV) : OR :=
  match x, T.ti t, cellsx v with
  | .one (.c (.rp id (.int 0) i sz fo)), some ti, some vs =>
    if vs.length = ti.size then
      match H.get id with
      | some b => recStore pa H nx id i sz fo vs b
      | none => .no
    else .no
  | .one (.c (.ptr id off)), some i, some vs =>
    if vs.length = i.size then
      match H.get id with
      | some (.cells l) =>
        match off with
        | .int o => if o.toNat + vs.length ≤ l.length then .eff SV.undef (H.put id (.cells (l.take o.toNat ++ vs ++ l.drop (o.toNat + vs.length)))) nx else .no
        | _ => .no
      | some (.row k g) =>
        match k, vs with
        | .int k, [.int k' e] => if k = k' then need pa (mk2 .inI g off) (.eff SV.undef (H.put id (.row (.int k) (.o3 .setI g off e))) nx) else .no
        | .bool, [.bool e] => need pa (mk2 .inB g off) (.eff SV.undef (H.put id (.row .bool (.o3 .setB g off e))) nx)
        | _, _ => .no
      | _ => .no
    else .no
  | _, _, _ => .no

/-- A new block; its number must be fresh. -/
def newx (tm : List SV) (H : SH) (nx : Nat) (l : List S1) : OR :=
  if decide (0 < nx) && tm.all (SV.ne nx) && H.ne nx && l.all (S1.ne nx) then .eff (.one (.c (.ptr nx (.int 0)))) (H.new nx (.cells l)) (nx + 1) else .no

def allocx (T : Tab) (tm : List SV) (H : SH) (nx : Nat) (t : TypeId) : OR :=
  match (T.ti t).bind (·.zero) with
  | some (.c x) => newx tm H nx [x]
  | some (.agg l) => newx tm H nx l
  | none => .no

def fillx (places : List (Nat × Nat)) (cells : List S1) : List (Nat × SV) → Option (List S1)
  | [] => some cells
  | (i, v) :: rest =>
    match places[i]?, cellsx v with
    | some (off, size), some vs =>
      if vs.length = size ∧ off + vs.length ≤ cells.length then fillx places (cells.take off ++ vs ++ cells.drop (off + vs.length)) rest else none
    | _, _ => none

def sizesx (T : Tab) : List (Nat × Nat) → Option (List (Nat × Nat))
  | [] => some []
  | (off, t) :: r => match T.ti t, sizesx T r with
    | some i, some l => some ((off, i.size) :: l)
    | _, _ => none

def evParts (tm : List SV) : List (Nat × Operand) → Option (List (Nat × SV))
  | [] => some []
  | (i, x) :: r => match evx tm x, evParts tm r with
    | some v, some l => some ((i, v) :: l)
    | _, _ => none

def buildx (T : Tab) (t : TypeId) (parts : List (Nat × SV)) : OR :=
  match T.ti t with
  | some i =>
    match i.td, i.zero with
    | .struct fs, some (.agg z) =>
      match sizesx T fs with
      | some pl => match fillx pl z parts with
        | some l => .val (.one (.agg l))
        | none => .no
      | none => .no
    | .array n e, some (.agg z) =>
      match T.ti e with
      | some ie => match fillx ((List.range n).map fun i => (i * ie.size, ie.size)) z parts with
        | some l => .val (.one (.agg l))
        | none => .no
      | none => .no
    | _, _ => .no
  | none => .no

def addE (a : E) (m : Nat) : E :=
  match a with
  | .int n => .int ((n.toNat + m : Nat) : Int)
  | a => if m = 0 then a else .o2 (.arith .add .i64) a (.int m)

def fieldAddrx (T : Tab) (s : TypeId) (x : SV) (f : Nat) : OR :=
  match x, T.td s with
  | .one (.c (.rp id o i sz fo)), some (.struct fs) =>
    match fs[f]? with
    | some (off, ft) => match T.ti ft with
      | some ti => if ti.size = 0 then .no else .val (.one (.c (.rp id o i sz (fo + off))))
      | none => .no
    | none => .no
  | .one (.c (.ptr id (.int o))), some (.struct fs) =>
    match fs[f]? with
    | some (off, ft) => match T.ti ft with
      | some i => if i.size = 0 then .no else .val (.one (.c (.ptr id (.int ((o.toNat + off : Nat) : Int)))))
      | none => .no
    | none => .no
  | _, _ => .no

def fieldx (T : Tab) (t : TypeId) (x : SV) (f : Nat) : OR :=
  match x, T.td t with
  | .one (.agg l), some (.struct fs) =>
    match fs[f]? with
    | some (off, ft) => match partx T ft l off with
      | some v => .val (.one v)
      | none => .no
    | none => .no
  | _, _ => .no

/-- Which of the first n numbers is it? -/
def whichx (pa : Path) (e : E) (k : Nat → OR) : Nat → Nat → OR
  | 0, _ => .fail
  | m + 1, i =>
    match dec pa (mk2 .eql e (.int i)) with
    | some true => k i
    | some false => whichx pa e k m (i + 1)
    | none => .fork (mk2 .eql e (.int i))

def indexAddrx (T : Tab) (pa : Path) (H : SH) (t : TypeId) (x ix : SV) : OR :=
  match ix, T.td t, x with
  | .one (.c (.int _ e)), some (.array n et), .one (.c (.ptr id (.int o))) =>
    match T.ti et with
    | some i =>
      match e with
      | .int j => if 0 ≤ j ∧ j < n then .val (.one (.c (.ptr id (.int ((o.toNat + j.toNat * i.size : Nat) : Int))))) else .fail
      | e => if n ≤ 64 then whichx pa e (fun j => .val (.one (.c (.ptr id (.int ((o.toNat + j * i.size : Nat) : Int)))))) n 0 else .no
    | none => .no
  | .one (.c (.int _ e)), some (.slice et), .one (.c (.slice id off len _)) =>
    match T.ti et, H.get id with
    | some i, some (.cells _) =>
      match off, len with
      | .int o, .int n =>
        match e with
        | .int j => if 0 ≤ j ∧ j < n then .val (.one (.c (.ptr id (.int ((o.toNat + j.toNat * i.size : Nat) : Int))))) else .fail
        | e => if n ≤ 64 then whichx pa e (fun j => .val (.one (.c (.ptr id (.int ((o.toNat + j * i.size : Nat) : Int)))))) n.toNat 0 else .no
      | _, _ => .no
    | some i, some (.row _ _) =>
      match off with
      | .int 0 =>
        if i.size = 1 then need pa (mk1 .not (mk2 .lss e (.int 0))) (need pa (mk2 .lss e len) (.val (.one (.c (.ptr id e))))) else .no
      | _ => .no
    | some i, some (.inp _ _ _ _) =>
      need pa (mk1 .not (mk2 .lss e (.int 0))) (need pa (mk2 .lss e len) (.val (.one (.c (.rp id off e i.size 0)))))
    | _, _ => .no
  | .one (.c (.int _ e)), some (.slice et), .one (.c (.vec id _ len)) =>
    match T.ti et with
    | some i => need pa (mk1 .not (mk2 .lss e (.int 0))) (need pa (mk2 .lss e len) (.val (.one (.c (.rp id (.int 0) e i.size 0)))))
    | none => .no
  | _, _, _ => .no

def extractx (x : SV) (i : Nat) : OR :=
  match x with
  | .tup l => match l[i]? with
    | some v => .val (.one v)
    | none => .no
  | _ => .no

def evArgs (tm : List SV) : List Operand → Option (List SV)
  | [] => some []
  | x :: r => match evx tm x, evArgs tm r with
    | some v, some l => some (v :: l)
    | _, _ => none

def builtinx (b : Builtin) (args : List SV) : OR :=
  match b, args with
  | .min, [.one (.c (.int k a)), .one (.c (.int k' b))] => if k = k' then iv k (mk2 .min a b) else .no
  | .max, [.one (.c (.int k a)), .one (.c (.int k' b))] => if k = k' then iv k (mk2 .max a b) else .no
  | _, _ => .no

def lenx (T : Tab) (t : Option TypeId) (args : List SV) : OR :=
  match t.bind T.td, args with
  | some (.slice _), [.one (.c .nils)] => iv .i64 (.int 0)
  | some (.slice _), [.one (.c (.slice _ _ len _))] => iv .i64 (mk1 .nat len)
  | some (.slice _), [.one (.c (.vec _ _ len))] => iv .i64 (mk1 .nat len)
  | some (.array n _), [_] => iv .i64 (.int n)
  | _, _ => .no

def rkOf : S1 → Option RK
  | .int k (.int 0) => some (.int k)
  | .bool (.bool false) => some .bool
  | _ => none
def rkList : List S1 → Option (List RK)
  | [] => some []
  | x :: l => match rkOf x, rkList l with
    | some k, some r => some (k :: r)
    | _, _ => none
def zcells : S2 → List S1
  | .c x => [x]
  | .agg l => l
/-- what records of a type are made of -/
def rkTy (i : TI) : Option (List RK) :=
  match i.zero with
  | some z => match rkList (zcells z) with
    | some ks => if ks.length = i.size ∧ 0 < ks.length ∧ i.bytes ≤ 1048576 then some ks else none
    | none => none
  | none => none
/-- cells put behind -/
def snocs (ks : List RK) : Nat → E → List S1 → Option E
  | _, g, [] => some g
  | j, g, x :: l =>
    match cellE (ks.getD (j % ks.length) .bool) x with
    | some e => snocs ks (j + 1) (.o2 .snoc g e) l
    | none => none
/-- what is put behind; how many records that is, where it may be none -/
def srcx (H : SH) (ks : List RK) (g : E) : S1 → Option (E × Option E)
  | .slice idx (.int 0) (.int n) (.int _) =>
    match H.get idx with
    | some (.cells l) => if 0 < n ∧ l.length = n.toNat * ks.length then (snocs ks 0 g l).map (·, none) else none
    | _ => none
  | .vec id2 _ len2 =>
    match H.get id2 with
    | some (.vec _ ks' g2) => if ks' = ks ∧ len2 = .o1 (.lenR ks.length) g2 then some (.o2 .cat g g2, some len2) else none
    | _ => none
  | _ => none
def emptyE : E := .o1 .zerosI (.int 0)
def vecGap : Nat := 64
def grownx (tm : List SV) (H : SH) (nx : Nat) (old : Option Nat) (ks : List RK) (g : E) : OR :=
  if decide (0 < nx) && tm.all (fun x => x.ne nx && x.ne (nx + vecGap)) && H.ne nx && H.ne (nx + vecGap) then
    .eff (.one (.c (.vec nx (nx + vecGap) (.o1 (.lenR ks.length) g)))) (SH.new (H.filter fun p => !(some p.1 == old)) nx (.vec (nx + vecGap) ks g)) (nx + vecGap + 1)
  else .no
/-- as many as may be put together here -/
def fewx (pa : Path) (ks : List RK) (g : E) (k : OR) : OR := need pa (mk2 .lss (.o1 (.lenR ks.length) g) (.int 1000)) k
def append0 (pa : Path) (tm : List SV) (H : SH) (nx : Nat) (ks : List RK) (s x : S1) : OR :=
  match srcx H ks emptyE x with
  | some (g', none) => fewx pa ks g' (grownx tm H nx none ks g')
  | some (g', some m) =>
    match dec pa (mk2 .eql m (.int 0)) with
    | some true => .ld (.one (.c s))
    | some false => fewx pa ks g' (grownx tm H nx none ks g')
    | none => .fork (base (mk2 .eql m (.int 0)))
  | none => .no
def appendx (T : Tab) (pa : Path) (tm : List SV) (H : SH) (nx : Nat) (ts : List TypeId) (args : List SV) : OR :=
  match ts, args with
  | [t, tx], [.one (.c s), .one (.c x)] =>
    match T.td t, T.td tx with
    | some (.slice et), some (.slice _) =>
      match (T.ti et).bind rkTy with
      | some ks =>
        match s, x with
        | .nils, .nils => .val (.one (.c .nils))
        | .nils, x => append0 pa tm H nx ks .nils x
        | .slice id (.int 0) (.int 0) (.int 0), x => append0 pa tm H nx ks (.slice id (.int 0) (.int 0) (.int 0)) x
        | .vec id cid len, x =>
          match H.get id with
          | some (.vec cid' ks' g) =>
            if cid' = cid ∧ ks' = ks ∧ len = .o1 (.lenR ks.length) g ∧ x.ne id = true then
              match srcx H ks g x with
              | some (g', _) => fewx pa ks g' (grownx tm H nx (some id) ks g')
              | none => .no
            else .no
          | _ => .no
        | _, _ => .no
      | none => .no
    | _, _ => .no
  | _, _ => .no

/-- what a function is bound to -/
def refx : Option Nat → SV
  | some id => .one (.c (.ptr id (.int 0)))
  | none => .one (.c .nilp)

def callx (T : Tab) (pa : Path) (tm : List SV) (H : SH) (nx : Nat) (c : Call) : OR :=
  match evArgs tm c.args.toList with
  | none => .no
  | some args =>
    match c.callee with
    | .value x =>
      match evx tm x with
      | some (.one (.c (.fn f))) => match T.fi f with
        | some _ => .call f args
        | none => .no
      | some (.one (.c (.clo f b y))) => match T.fi f with
        | some _ => .call f (if b then refx y :: args else args ++ [refx y])
        | none => .no
      | _ => .no
    | .builtin .len => lenx T (c.argTypes[0]?) args
    | .builtin .append => appendx T pa tm H nx c.argTypes.toList args
    | .builtin b => builtinx b args
    | .invoke recv name =>
      match evx tm recv with
      | some (.one (.c (.ifp t id off))) =>
        match T.ti t with
        | some i => match i.td, i.mth.find? (fun m => m.1 == name) with
          | .ptr _, some (_, some (f, true)) => match T.fi f with
            | some _ => .call f (.one (.c (.ptr id off)) :: args)
            | none => .no
          | _, _ => .no
        | none => .no
      | some (.one (.c (.ifn t))) =>
        match T.ti t with
        | some i => match i.td, i.mth.find? (fun m => m.1 == name) with
          | .ptr _, some (_, some (f, true)) => match T.fi f with
            | some _ => .call f (.one (.c .nilp) :: args)
            | none => .no
          | _, _ => .no
        | none => .no
      | _ => .no

def o1x (r : Option SV) (k : SV → OR) : OR := match r with | some v => k v | none => .no

/-- A row of numbers, or of Booleans. -/
def zerosE : RK → E → E
  | .int _, e => .o1 .zerosI e
  | .bool, e => .o1 .zerosB e
def roomMost (bytes : Nat) : Nat := 281474976710656 / bytes
def rowx (pa : Path) (tm : List SV) (H : SH) (nx : Nat) (k : RK) (bytes : Nat) (len : E) : OR :=
  need pa (mk1 .not (mk2 .lss len (.int 0))) (need pa (mk1 .not (mk2 .lss (.int (roomMost bytes : Int)) len))
    (if decide (0 < nx) && tm.all (SV.ne nx) && H.ne nx then .eff (.one (.c (.slice nx (.int 0) len len))) (H.new nx (.row k (zerosE k len))) (nx + 1) else .no))
def rowKind (i : TI) : Option RK :=
  match i.zero with
  | some (.c (.int k (.int 0))) => if i.size = 1 ∧ 0 < i.bytes then some (.int k) else none
  | some (.c (.bool (.bool false))) => if i.size = 1 ∧ 0 < i.bytes then some .bool else none
  | _ => none

def makeSlicex (T : Tab) (pa : Path) (tm : List SV) (H : SH) (nx : Nat) (t : TypeId) (l c : SV) : OR :=
  match T.td t, l, c with
  | some (.slice et), .one (.c (.int .i64 len)), .one (.c (.int .i64 cap)) =>
    if len = cap then
      match T.ti et with
      | some i =>
        match rowKind i with
        | some k => rowx pa tm H nx k i.bytes len
        | none =>
        match len, i.zero with
        | .int n, some z =>
          if 0 ≤ n ∧ n * i.bytes ≤ 281474976710656 ∧ n ≤ 64 then
            if (zcells z).length = i.size ∧ 0 < i.size then
              (match newx tm H nx ((List.range (n.toNat * i.size)).map fun j => (zcells z).getD (j % (zcells z).length) .nilp) with
               | .eff _ H' nx' => .eff (.one (.c (.slice nx (.int 0) (.int n) (.int n)))) H' nx'
               | _ => .no)
            else .no
          else .no
        | _, _ => .no
      | none => .no
    else .no
  | _, _, _ => .no

def nilx (v : SV) : OR :=
  match v with
  | .one (.c .nilp) | .one (.c .niface) => .fail
  | .one (.c (.ptr _ _)) | .one (.c (.ifp _ _ _)) | .one (.c (.fn _)) | .one (.c (.ifn _)) | .one (.c (.clo _ _ _)) | .one (.c (.rp _ _ _ _ _)) => .val v
  | _ => .no

/-- A slice's cells, laid. -/
def buildSlicex (T : Tab) (tm : List SV) (H : SH) (nx : Nat) (t : TypeId) (len : Nat) (parts : List (Nat × SV)) : OR :=
  match T.td t with
  | some (.slice et) =>
    match T.ti et with
    | some i =>
      match len with
      | 0 =>
        match parts, rkTy i with
        | [], some ks => grownx tm H nx none ks emptyE
        | _, _ => .no
      | len + 1 =>
        match i.zero with
        | some z =>
          if (zcells z).length = i.size ∧ 0 < i.size ∧ (len + 1) * i.size ≤ 1000 then
            match fillx ((List.range (len + 1)).map fun j => (j * i.size, i.size)) ((List.range ((len + 1) * i.size)).map fun j => (zcells z).getD (j % (zcells z).length) .nilp) parts with
            | some l =>
              match newx tm H nx l with
              | .eff _ H' nx' => .eff (.one (.c (.slice nx (.int 0) (.int ((len + 1 : Nat) : Int)) (.int ((len + 1 : Nat) : Int))))) H' nx'
              | _ => .no
            | none => .no
          else .no
        | none => .no
    | none => .no
  | _ => .no
def isZero : Option Operand → Bool
  | some (.const (.int _ 0)) => true
  | _ => false
/-- nothing of a slice -/
def slicex (T : Tab) (t : TypeId) (x : SV) (lo hi mx : Option Operand) : OR :=
  match T.td t with
  | some (.slice et) =>
    if (T.ti et).isSome && (lo.isNone && isZero hi && isZero mx) then
      match x with
      | .one (.c .nils) => .val (.one (.c .nils))
      | .one (.c (.vec id _ _)) => .val (.one (.c (.slice id (.int 0) (.int 0) (.int 0))))
      | .one (.c (.slice id (.int 0) _ _)) => .val (.one (.c (.slice id (.int 0) (.int 0) (.int 0))))
      | _ => .no
    else .no
  | _ => .no
def refOf : SV → Option (Option Nat)
  | .one (.c (.ptr id (.int 0))) => some (some id)
  | .one (.c .nilp) => some none
  | _ => none
def makeFuncx (tm : List SV) (fn : Fn) (first captured : List Operand) : OR :=
  match fn, first, captured with
  | .func f, [], [x] => match (evx tm x).bind refOf with
    | some y => .val (.one (.c (.clo f false y)))
    | none => .no
  | .func f, [x], [] => match (evx tm x).bind refOf with
    | some y => .val (.one (.c (.clo f true y)))
    | none => .no
  | _, _, _ => .no

def opx (T : Tab) (pa : Path) (tm : List SV) (H : SH) (nx : Nat) (o : Oper) : OR :=
  match o.op with
  | .move x | .assign x => o1x (evx tm x) .val
  | .pick c a b =>
    match evx tm c with
    | some (.one (.c (.bool e))) =>
      match dec pa e with
      | some true => o1x (evx tm a) .val
      | some false => o1x (evx tm b) .val
      | none => .fork (base e)
    | _ => .no
  | .alloc t => allocx T tm H nx t
  | .box _ x => o1x (evx tm x) fun v => match cellsx v with | some l => newx tm H nx l | none => .no
  | .build t ps => match evParts tm ps.toList with | some l => buildx T t l | none => .no
  | .load t a => o1x (evx tm a) (loadx T pa H t)
  | .store t a x => o1x (evx tm a) fun a => o1x (evx tm x) fun v => storex T pa H nx t a v
  | .nilCheck x => o1x (evx tm x) nilx
  | .binOp op xt x y _ => o1x (evx tm x) fun a => o1x (evx tm y) fun b => binx T pa op xt a b
  | .unOp op _ x => o1x (evx tm x) (unx op)
  | .convert src dst x => o1x (evx tm x) fun v =>
    match v, T.td src, T.td dst with
    | .one (.c (.int _ e)), some _, some (.int k) => iv k (mk1 (.conv k) e)
    | _, _, _ => .no
  | .makeInterface t x => o1x (evx tm x) fun v =>
    match v, T.td t with
    | .one (.c (.ptr id off)), some (.ptr _) => .val (.one (.c (.ifp t id off)))
    | .one (.c .nilp), some (.ptr _) => .val (.one (.c (.ifn t)))
    | _, _ => .no
  | .fieldAddr s x f => o1x (evx tm x) fun v => fieldAddrx T s v f
  | .field t x f => o1x (evx tm x) fun v => fieldx T t v f
  | .indexAddr t x ix => o1x (evx tm x) fun v => o1x (evx tm ix) fun i => indexAddrx T pa H t v i
  | .extract x i => o1x (evx tm x) fun v => extractx v i
  | .makeSlice t l c => o1x (evx tm l) fun a => o1x (evx tm c) fun b => makeSlicex T pa tm H nx t a b
  | .call c => callx T pa tm H nx c
  | .buildSlice t n ps => match evParts tm ps.toList with | some l => buildSlicex T tm H nx t n l | none => .no
  | .slice t x lo hi mx => o1x (evx tm x) fun v => slicex T t v lo hi mx
  | .makeFunc fn fs cs => makeFuncx tm fn fs.toList cs.toList
  | _ => .no

end Go.Sx

/- The symbolic executor, part 3: the operations' soundness, first half. -/
namespace Go.Sx
open Go
set_option linter.unusedSimpArgs false
set_option linter.unusedVariables false

variable {U : Type} {S : Sig U} {n : Env U} {P : Program} {T : Tab} {w : World} {a : Act} {pa : Path} {tm : List SV} {H : SH} {nx : Nat}

/-- What is held of a way. -/
def PT (S : Sig U) (v : Nat → G U) (pa : Path) : Prop := ∀ x ∈ pa, (x.1.den S v).toBool = x.2

theorem known_sound {v : Nat → G U} (h : PT S v pa) {e : E} {b : Bool} (hk : known pa e = some b) : (e.den S v).toBool = b := by
  unfold known at hk
  cases hf : pa.find? (fun x => x.1 == e) with
  | none =>
    rw [hf] at hk
    simp only at hk
    split at hk
    · rename_i a k _
      split at hk
      · rename_i ho
        simp only [Option.some.injEq] at hk
        subst hk
        obtain ⟨x, hx, ho⟩ := List.any_eq_true.1 ho
        split at ho
        · rename_i b j _
          simp only [Bool.and_eq_true, beq_iff_eq, Bool.not_eq_true', decide_eq_false_iff_not] at ho
          obtain ⟨rfl, hj⟩ := ho
          have := h _ hx
          simp only [E.den, O2.ap, G.toBool_bool, G.toInt_int, beq_iff_eq] at this
          simp only [E.den, O2.ap, G.toBool_bool, G.toInt_int, beq_eq_false_iff_ne, ne_eq]
          omega
        · simp at ho
      · simp at hk
    · simp at hk
  | some x =>
    simp [hf] at hk
    have h1 := List.mem_of_find?_eq_some hf
    have h2 := List.find?_some hf
    have := h x h1
    simp at h2
    subst h2
    rw [this, hk]

theorem dec_sound {v : Nat → G U} (h : PT S v pa) : ∀ {e : E} {b : Bool}, dec pa e = some b → (e.den S v).toBool = b := by
  intro e
  induction e with
  | bool b' => intro b hb; simp [dec] at hb; simp [E.den, hb]
  | o1 o x ih =>
    intro b hb
    cases o with
    | not =>
      simp only [dec, Option.map_eq_some_iff] at hb
      obtain ⟨c, hc, rfl⟩ := hb
      simp [E.den, O1.ap, ih hc]
    | _ => exact known_sound h (by simpa [dec] using hb)
  | _ => intro b hb; exact known_sound h (by simpa [dec] using hb)

theorem S1.ofValue_den {v : Value} {x : S1} (h : S1.ofValue v = some x) : x.den S n = v := by
  unfold S1.ofValue at h
  split at h <;> simp at h <;> subst h <;> simp [S1.den, E.den]

theorem S1.ofValues_den : ∀ {l : List Value} {xs : List S1}, S1.ofValues l = some xs → cellsDen S n xs = l
  | [], xs, h => by simp [S1.ofValues] at h; subst h; rfl
  | v :: l, xs, h => by
    simp only [S1.ofValues] at h
    split at h
    · rename_i x r hx hr
      simp at h; subst h
      simp only [cellsDen, List.map_cons, S1.ofValue_den hx]
      congr 1
      exact S1.ofValues_den hr
    · simp at h

theorem S2.ofValue_den {v : Value} {x : S2} (h : S2.ofValue v = some x) : x.den S n = v := by
  unfold S2.ofValue at h
  split at h
  · simp only [Option.map_eq_some_iff] at h
    obtain ⟨l, hl, rfl⟩ := h
    simp only [S2.den, S1.ofValues_den hl]
  · simp only [Option.map_eq_some_iff] at h
    obtain ⟨l, hl, rfl⟩ := h
    simp only [S2.den, S1.ofValue_den hl]

/-- The frame is what the state says. -/
def Tm (S : Sig U) (n : Env U) (tm : List SV) (a : Act) : Prop :=
  (a.tmps.size = tm.length ∧ ∀ (d : Nat) (x : SV), tm[d]? = some x → x.isAny = false → a.tmps[d]? = some (x.den S n)) ∧ a.defers = []

theorem Tm.of_map (h : a.tmps = (tm.map (SV.den S n)).toArray) (hd : a.defers = []) : Tm S n tm a :=
  ⟨⟨by rw [h]; simp, fun d x hx _ => by rw [h]; simp [hx]⟩, hd⟩

theorem evx_sound (hm : Tm S n tm a) {x : Operand} {v : SV} (h : evx tm x = some v) : a.eval x = v.den S n := by
  cases x with
  | tmp t =>
    simp only [evx] at h
    split at h
    · simp at h
    · rename_i hany
      simp at h; subst h
      simp only [Act.eval, Array.getD_eq_getD_getElem?]
      cases ht : tm[t]? with
      | none =>
        have hn : a.tmps[t]? = none := by
          rw [List.getElem?_eq_none_iff] at ht
          rw [Array.getElem?_eq_none_iff, hm.1.1]; exact ht
        simp [hn, SV.undef, SV.den, undef]
      | some x =>
        have hx : x.isAny = false := by simpa [List.getD_eq_getElem?_getD, ht] using hany
        rw [hm.1.2 t x ht hx]
        simp
  | const c =>
    simp only [evx, Option.map_eq_some_iff] at h
    obtain ⟨y, hy, rfl⟩ := h
    simp only [Act.eval, SV.den, S2.ofValue_den hy]
  | global g => simp [evx] at h
  | func f => simp [evx] at h; subst h; rfl

theorem evArgs_sound (hm : Tm S n tm a) : ∀ {l : List Operand} {vs : List SV}, evArgs tm l = some vs → l.map a.eval = vs.map (SV.den S n)
  | [], vs, h => by simp [evArgs] at h; subst h; rfl
  | x :: r, vs, h => by
    simp only [evArgs] at h
    split at h
    · rename_i v l hv hl
      simp at h; subst h
      simp only [List.map_cons, evx_sound hm hv, evArgs_sound hm hl]
    · simp at h

/-! ### types -/
theorem Tab.ok.info (hT : T.ok P) {t : TypeId} {i : TI} (h : T.ti t = some i) :
    ∃ f d, P.info? t = some f ∧ P.underlying t = some d ∧ i.td = slim d ∧ i.size = f.size ∧ i.bytes = f.bytes ∧ i.zero = f.zero.bind S2.ofValue ∧ i.mth = f.methods.toList.map mthOf := by
  have h1 := hT.ti t i h
  unfold tinfo at h1
  split at h1
  · rename_i f d hf hd
    simp at h1
    subst h1
    exact ⟨f, d, hf, hd, rfl, rfl, rfl, rfl, rfl⟩
  · simp at h1

theorem Tab.ok.und (hT : T.ok P) {t : TypeId} {d : TD} (h : T.td t = some d) : ∃ d', P.underlying t = some d' ∧ d = slim d' := by
  unfold Tab.td at h
  simp only [Option.map_eq_some_iff] at h
  obtain ⟨i, hi, rfl⟩ := h
  obtain ⟨f, d, _, hd, he, _⟩ := hT.info hi
  exact ⟨d, hd, he⟩

theorem run_underlying' {t : TypeId} {d : TypeDesc} (h : P.underlying t = some d) (w : World) : (underlying t).run P w = .ok d w := by
  simp [underlying, h]
theorem run_sizeOf' {t : TypeId} {i : TypeInfo} (h : P.info? t = some i) (w : World) : (sizeOf t).run P w = .ok i.size w := by
  simp [sizeOf, typeInfo, h]
theorem run_typeInfo' {t : TypeId} {i : TypeInfo} (h : P.info? t = some i) (w : World) : (typeInfo t).run P w = .ok i w := by
  simp [typeInfo, h]
theorem run_zeroValue' {t : TypeId} {i : TypeInfo} {v : Value} (h : P.info? t = some i) (hz : i.zero = some v) (w : World) : (zeroValue t).run P w = .ok v w := by
  simp [zeroValue, typeInfo, h, hz]
theorem run_isAgg' {t : TypeId} {d : TypeDesc} (h : P.underlying t = some d) (w : World) : (isAgg t).run P w = .ok (isAggT (slim d)) w := by
  simp only [isAgg, Sem.run_bind, run_underlying' h, Result.andThen_ok]
  cases d <;> simp [slim, isAggT]

/-! ### arithmetic -/
/-- It yields that, in whatever world. -/
def Yv (P : Program) (s : Sem Value) (v : Value) : Prop := ∀ w, s.run P w = .ok v w

/-- What an 'OR' that only computes says. -/
def OR.pure (S : Sig U) (n : Env U) (P : Program) (s : Sem Value) : OR → Prop
  | .val v => Yv P s (v.den S n)
  | .no | .fail | .fork _ | .skip => True
  | _ => False

theorem need_pure {v : Nat → G U} (hp : PT S v pa) {b : E} {k : OR} {s : Sem Value} (h : (b.den S v).toBool = true → OR.pure S n P s k) : OR.pure S n P s (need pa b k) := by
  unfold need
  split
  · rename_i hd; exact h (dec_sound hp hd)
  · trivial
  · trivial

theorem intx_sound (hp : PT S n.v pa) (op : BinOp) (k k' : IntKind) (x y : E) (xt : TypeId) :
    OR.pure S n P (binOp op xt (.int k (x.den S n.v).toInt) (.int k' (y.den S n.v).toInt)) (intx pa op k k' x y) := by
  cases op <;> simp only [intx]
  case shl =>
    refine need_pure hp fun hb => ?_
    simp only [den_mk1, den_mk2, O1.ap, O2.ap, E.den, G.toBool_bool, G.toInt_int, Bool.not_eq_true', decide_eq_false_iff_not] at hb
    intro w
    have hb' := of_decide_eq_false hb
    simp [binOp, Op.shift, hb', -Int.not_lt, SV.den, S2.den, S1.den, den_mk2, O2.ap, shiftInt, iv, OR.pure]
  case shr =>
    refine need_pure hp fun hb => ?_
    simp only [den_mk1, den_mk2, O1.ap, O2.ap, E.den, G.toBool_bool, G.toInt_int, Bool.not_eq_true', decide_eq_false_iff_not] at hb
    intro w
    have hb' := of_decide_eq_false hb
    simp [binOp, Op.shift, hb', -Int.not_lt, SV.den, S2.den, S1.den, den_mk2, O2.ap, shiftInt, iv, OR.pure]
  case quo =>
    split
    · rename_i hk; subst hk
      refine need_pure hp fun hb => ?_
      simp only [den_mk1, den_mk2, O1.ap, O2.ap, E.den, G.toBool_bool, G.toInt_int, Bool.not_eq_true', beq_eq_false_iff_ne, ne_eq] at hb
      intro w
      simp [binOp, Op.intDiv, hb, SV.den, S2.den, S1.den, den_mk2, O2.ap, divInt, iv, OR.pure]
    · trivial
  case rem =>
    split
    · rename_i hk; subst hk
      refine need_pure hp fun hb => ?_
      simp only [den_mk1, den_mk2, O1.ap, O2.ap, E.den, G.toBool_bool, G.toInt_int, Bool.not_eq_true', beq_eq_false_iff_ne, ne_eq] at hb
      intro w
      simp [binOp, Op.intDiv, hb, SV.den, S2.den, S1.den, den_mk2, O2.ap, divInt, iv, OR.pure]
    · trivial
  all_goals
    split
    · rename_i hk; subst hk
      intro w
      simp [binOp, Op.intArith, Op.intBits, Op.intCmp, SV.den, S2.den, S1.den, den_mk1, den_mk2, O1.ap, O2.ap, arithInt, bitsInt, iv, bv, OR.pure] <;> first | rfl | grind
    · trivial


/-! ### references -/
theorem S1.den_isInt {x : S1} (h : refKind x ≠ none) : ∀ k m, x.den S n ≠ .int k m := by
  cases x <;> simp [refKind, S1.den] at *

theorem equalIn_ref {xt : TypeId} {d : TypeDesc} (hd : P.underlying xt = some d) {x y : S1} {r : Bool} (h : sameRef x y = some r) (hk : refKind x = some (tdKind (slim d))) (w : World) :
    (Op.equal xt (x.den S n) (y.den S n)).run P w = .ok r w := by
  have hx : Op.equal xt (x.den S n) (y.den S n) = Op.equalIn (9999 + 1) xt (x.den S n) (y.den S n) := rfl
  rw [hx]
  unfold Op.equalIn
  simp only [Sem.run_bind, run_underlying' hd, Result.andThen_ok]
  cases x <;> cases y <;> simp [sameRef] at h <;> subst h <;> cases d <;> simp [refKind, tdKind, slim, S1.den] at *

theorem equal_bool {xt : TypeId} {d : TypeDesc} (hd : P.underlying xt = some d) (hk : slim d = .bool) (x y : Bool) (w : World) :
    (Op.equal xt (.bool x) (.bool y)).run P w = .ok (x == y) w := by
  have hx : Op.equal xt (.bool x) (.bool y) = Op.equalIn (9999 + 1) xt (.bool x) (.bool y) := rfl
  rw [hx]
  unfold Op.equalIn
  simp only [Sem.run_bind, run_underlying' hd, Result.andThen_ok]
  cases d <;> simp [slim] at * <;> rfl

theorem binOp_ref_eql (xt : TypeId) {x y : S1} {r : Bool} (h : sameRef x y = some r) :
    binOp .eql xt (x.den S n) (y.den S n) = Value.bool <$> Op.equal xt (x.den S n) (y.den S n) := by
  cases x <;> cases y <;> simp [sameRef] at h <;> simp [S1.den, binOp]
theorem binOp_ref_neq (xt : TypeId) {x y : S1} {r : Bool} (h : sameRef x y = some r) :
    binOp .neq xt (x.den S n) (y.den S n) = (fun b => Value.bool (!b)) <$> Op.equal xt (x.den S n) (y.den S n) := by
  cases x <;> cases y <;> simp [sameRef] at h <;> simp [S1.den, binOp]

theorem eqGuard_ref (op : BinOp) (xt : TypeId) (p q : Operand) {x y : S1} {r : Bool} (h : sameRef x y = some r) (w : World) :
    (eqGuard op xt p q (x.den S n) (y.den S n)).run P w = .ok () w := by
  unfold eqGuard
  cases x <;> cases y <;> simp [sameRef] at h <;> simp [S1.den] <;> (split <;> simp)

theorem eqGuard_int (op : BinOp) (xt : TypeId) (p q : Operand) (k k' : IntKind) (x y : Int) (w : World) :
    (eqGuard op xt p q (.int k x) (.int k' y)).run P w = .ok () w := by
  unfold eqGuard
  simp <;> (split <;> simp)
theorem eqGuard_bool (op : BinOp) (xt : TypeId) (p q : Operand) (x y : Bool) (w : World) :
    (eqGuard op xt p q (.bool x) (.bool y)).run P w = .ok () w := by
  unfold eqGuard
  simp <;> (split <;> simp)

theorem run_part_one {t : TypeId} {d : TypeDesc} (hd : P.underlying t = some d) (hagg : isAggT (slim d) = false) {cs : Array Value} {off : Nat} {v : Value} (hc : cs[off]? = some v) (w : World) :
    (part t cs off).run P w = .ok v w := by
  simp [part, run_isAgg' hd, hagg, hc]

theorem eqFs_sound (hT : T.ok P) (hp : PT S n.v pa) (neg : Bool) (a b : List S1) : ∀ (fl : List Field), (∀ f ∈ fl, f.name ≠ "_") → ∀ r, eqFs T pa neg a b (fl.map fun f => (f.offset, f.type)) = r →
    match r with
    | .val v => ∃ x : Bool, v.den S n = .bool (x != neg) ∧ ∀ w, (Op.eqFields (9998 + 1) (cellsDen S n a).toArray (cellsDen S n b).toArray fl).run P w = .ok x w
    | .no | .fork _ => True
    | _ => False
  | [], _, r, h => by
    simp only [List.map_nil, eqFs] at h
    subst h
    exact ⟨true, by cases neg <;> rfl, fun w => by simp [Op.eqFields]⟩
  | f :: fl, hn, r, h => by
    have hnm := hn f (List.mem_cons_self ..)
    have ih := eqFs_sound hT hp neg a b fl fun g hg => hn g (List.mem_cons_of_mem _ hg)
    simp only [List.map_cons, eqFs] at h
    have cell : ∀ (l : List S1) (c : S1), l[f.offset]? = some c → (cellsDen S n l).toArray[f.offset]? = some (c.den S n) := fun l c hl => by simp [cellsDen, hl]
    split at h
    · rename_i k0 k x k' y ht ha hb
      split at h
      · rename_i hk; subst hk
        obtain ⟨d, hd, hs⟩ := hT.und ht
        have hagg : isAggT (slim d) = false := by rw [← hs]; rfl
        have hu : P.underlying f.type = some (.int k0) := by rw [hd]; cases d <;> simp [slim] at hs; rw [hs]
        have e1 := run_part_one hd hagg (cell a _ ha)
        have e2 := run_part_one hd hagg (cell b _ hb)
        have hr : ∀ w, (Op.eqFields (9998 + 1) (cellsDen S n a).toArray (cellsDen S n b).toArray (f :: fl)).run P w =
            if ((x.den S n.v).toInt == (y.den S n.v).toInt) = true then (Op.eqFields (9998 + 1) (cellsDen S n a).toArray (cellsDen S n b).toArray fl).run P w else .ok false w := fun w => by
          rw [Op.eqFields, if_pos hnm]
          simp only [Sem.run_bind, e1, e2, Result.andThen_ok, S1.den, run_equalIn_int _ _ _ _ _ _ _ hu]
          cases ((x.den S n.v).toInt == (y.den S n.v).toInt) <;> simp
        split at h
        · rename_i hd'
          have hv := dec_sound hp hd'
          simp only [den_mk2, O2.ap, G.toBool_bool] at hv
          have := ih r h
          revert this
          cases r <;> simp only [imp_self]
          rintro ⟨z, h1, h2⟩
          exact ⟨z, h1, fun w => by rw [hr w, if_pos hv]; exact h2 w⟩
        · rename_i hd'
          have hv := dec_sound hp hd'
          simp only [den_mk2, O2.ap, G.toBool_bool] at hv
          subst h
          exact ⟨false, by cases neg <;> rfl, fun w => by rw [hr w, if_neg (by rw [hv]; simp)]⟩
        · subst h; trivial
      · subst h; trivial
    · rename_i x y ht ha hb
      obtain ⟨d, hd, hs⟩ := hT.und ht
      have hagg : isAggT (slim d) = false := by rw [← hs]; rfl
      have hu : P.underlying f.type = some .bool := by rw [hd]; cases d <;> simp [slim] at hs; rfl
      have e1 := run_part_one hd hagg (cell a _ ha)
      have e2 := run_part_one hd hagg (cell b _ hb)
      have hr : ∀ w, (Op.eqFields (9998 + 1) (cellsDen S n a).toArray (cellsDen S n b).toArray (f :: fl)).run P w =
          if ((x.den S n.v).toBool == (y.den S n.v).toBool) = true then (Op.eqFields (9998 + 1) (cellsDen S n a).toArray (cellsDen S n b).toArray fl).run P w else .ok false w := fun w => by
        rw [Op.eqFields, if_pos hnm]
        simp only [Sem.run_bind, e1, e2, Result.andThen_ok, S1.den, run_equalIn_bool' _ _ _ _ _ hu]
        cases ((x.den S n.v).toBool == (y.den S n.v).toBool) <;> simp
      split at h
      · rename_i hd'
        have hv := dec_sound hp hd'
        simp only [den_mk2, O2.ap, G.toBool_bool] at hv
        have := ih r h
        revert this
        cases r <;> simp only [imp_self]
        rintro ⟨z, h1, h2⟩
        exact ⟨z, h1, fun w => by rw [hr w, if_pos hv]; exact h2 w⟩
      · rename_i hd'
        have hv := dec_sound hp hd'
        simp only [den_mk2, O2.ap, G.toBool_bool] at hv
        subst h
        exact ⟨false, by cases neg <;> rfl, fun w => by rw [hr w, if_neg (by rw [hv]; simp)]⟩
      · subst h; trivial
    · subst h; trivial

theorem eqB_sound (hT : T.ok P) {xt : TypeId} {fs : List (Nat × Nat)} (hc : T.eqs.contains xt = true) (hd : T.td xt = some (.struct fs)) :
    ∃ fl : Array Field, P.underlying xt = some (.struct fl) ∧ P.stoodInHeld xt = false ∧ P.eqGuardType P.depth xt = false ∧ (∀ f ∈ fl.toList, f.name ≠ "_") ∧ fs = fl.toList.map (fun f => (f.offset, f.type)) := by
  have h := hT.eqs xt (List.contains_iff_mem.1 hc)
  obtain ⟨d, hd, hs⟩ := hT.und hd
  cases d <;> simp [slim] at hs
  rename_i fl
  simp only [eqB, hd, Bool.and_eq_true, Bool.not_eq_true', List.all_eq_true, bne_iff_ne] at h
  exact ⟨fl, hd, h.1.1, h.1.2, h.2, hs⟩

theorem binx_sound (hT : T.ok P) (hp : PT S n.v pa) (op : BinOp) (xt : TypeId) (p q : Operand) (x y : SV) :
    OR.pure S n P (do eqGuard op xt p q (x.den S n) (y.den S n); binOp op xt (x.den S n) (y.den S n)) (binx T pa op xt x y) := by
  unfold binx
  split
  · rename_i k e k' e'
    have h := intx_sound (P := P) (n := n) hp op k k' e e' xt
    generalize intx pa op k k' e e' = r at h
    cases r <;> first | trivial | exact h.elim | skip
    intro w
    have hw := h w
    simp only [SV.den, S2.den, S1.den] at hw ⊢
    simp only [Sem.run_bind, eqGuard_int, Result.andThen_ok, hw]
  · rename_i e e'
    split
    · rename_i h1
      obtain ⟨d, hd, hs⟩ := hT.und h1
      intro w
      simp only [SV.den, S2.den, S1.den, Sem.run_bind, eqGuard_bool, Result.andThen_ok, binOp, equal_bool hd hs.symm, den_mk2, O2.ap, G.toBool_bool]
      rfl
    · rename_i h1
      obtain ⟨d, hd, hs⟩ := hT.und h1
      intro w
      simp only [SV.den, S2.den, S1.den, Sem.run_bind, eqGuard_bool, Result.andThen_ok, binOp, equal_bool hd hs.symm, den_mk1, O1.ap, den_mk2, O2.ap, G.toBool_bool]
      rfl
    · trivial
  · rename_i x' y' _ _
    split
    · rename_i r t h1 h2
      split
      · rename_i h3
        simp only [Option.map_eq_some_iff] at h2
        obtain ⟨td, h2, rfl⟩ := h2
        obtain ⟨d, hd, rfl⟩ := hT.und h2
        intro w
        simp only [SV.den, S2.den, Sem.run_bind, eqGuard_ref _ _ _ _ h1, Result.andThen_ok, binOp_ref_eql xt h1, Sem.run_map, equalIn_ref hd h1 h3]
        simp [S1.den, E.den]
      · trivial
    · rename_i r t h1 h2
      split
      · rename_i h3
        simp only [Option.map_eq_some_iff] at h2
        obtain ⟨td, h2, rfl⟩ := h2
        obtain ⟨d, hd, rfl⟩ := hT.und h2
        intro w
        simp only [SV.den, S2.den, Sem.run_bind, eqGuard_ref _ _ _ _ h1, Result.andThen_ok, binOp_ref_neq xt h1, Sem.run_map, equalIn_ref hd h1 h3]
        simp [S1.den, E.den]
      · trivial
    · trivial
  · rename_i la lb
    split
    · rename_i hc
      split
      · rename_i fs htd
        obtain ⟨fl, q1, q2, q3, q4, q5⟩ := eqB_sound hT hc htd
        have hf : P.fieldsOf xt = fl := by simp [Program.fieldsOf, q1]
        subst q5
        have h := eqFs_sound (S := S) (n := n) hT hp false la lb fl.toList q4 _ rfl
        generalize eqFs T pa false la lb _ = r at h
        cases r <;> first | trivial | exact h.elim | skip
        obtain ⟨x, h1, h2⟩ := h
        intro w
        rw [h1]
        simp only [SV.den, S2.den, Sem.run_bind, run_eqGuard_agg w _ _ _ _ _ _ q3, Result.andThen_ok, run_eql_struct]
        rw [show (10000 : Nat) = (9998 + 1) + 1 from rfl, run_equalIn_struct w _ xt _ _ (by rw [hf]; exact q1) q2, hf, h2 w]
        simp
      · rename_i fs htd
        obtain ⟨fl, q1, q2, q3, q4, q5⟩ := eqB_sound hT hc htd
        have hf : P.fieldsOf xt = fl := by simp [Program.fieldsOf, q1]
        subst q5
        have h := eqFs_sound (S := S) (n := n) hT hp true la lb fl.toList q4 _ rfl
        generalize eqFs T pa true la lb _ = r at h
        cases r <;> first | trivial | exact h.elim | skip
        obtain ⟨x, h1, h2⟩ := h
        intro w
        rw [h1]
        simp only [SV.den, S2.den, Sem.run_bind, run_eqGuard_agg w _ _ _ _ _ _ q3, Result.andThen_ok, run_neq_struct]
        rw [show (10000 : Nat) = (9998 + 1) + 1 from rfl, run_equalIn_struct w _ xt _ _ (by rw [hf]; exact q1) q2, hf, h2 w]
        simp
      · trivial
    · trivial
  · trivial

theorem unx_sound (op : UnOp) (x : SV) : OR.pure S n P (Op.unary op (x.den S n)) (unx op x) := by
  unfold unx
  split
  · intro w; simp [SV.den, S2.den, S1.den, Op.unary, Op.intArith, den_mk2, O2.ap, arithInt, E.den]
  · intro w; simp [SV.den, S2.den, S1.den, Op.unary, Op.intBits, den_mk2, O2.ap, bitsInt, E.den]
  · intro w; simp [SV.den, S2.den, S1.den, Op.unary, den_mk1, O1.ap]
  · trivial

end Go.Sx

/- The symbolic executor, part 4: memory. -/
namespace Go.Sx
open Go
set_option linter.unusedSimpArgs false
set_option linter.unusedVariables false

variable {U : Type} {S : Sig U} {n n' : Env U} {P : Program} {T : Tab} {w w' : World} {a : Act} {pa : Path} {tm : List SV} {H : SH} {nx id : Nat} {o o' : Nat → Nat} {h h' : Array Obj}

theorem Sat.get (hs : Sat S n o h H) {b : Blk} (hg : H.get id = some b) : 0 < id ∧ b.holds S n o h id := by
  unfold SH.get at hg
  simp only [Option.map_eq_some_iff] at hg
  obtain ⟨p, hp, rfl⟩ := hg
  have h1 := List.mem_of_find?_eq_some hp
  have h2 := List.find?_some hp
  simp at h2
  subst h2
  exact hs p h1

theorem lt_size {h : Array Obj} {i : Nat} {x : Obj} (e : h[i]? = some x) : i < h.size := (Array.getElem?_eq_some_iff.1 e).1

/-- A piece of memory stays as it was where its blocks do. -/
theorem Blk.keep {b : Blk} (hv : n'.v = n.v) (hr : n'.rho id = n.rho id) (hc : (∀ l, b = .cells l → cellsDen S n' l = cellsDen S n l) ∧ ∀ c ks g, b = .vec c ks g → n'.rho c = n.rho c)
    (hb : ∀ i, i < h.size → o i = id → o' i = id ∧ h'[i]? = h[i]?) (hh : b.holds S n o h id) : b.holds S n' o' h' id := by
  cases b with
  | cells l =>
    obtain ⟨h1, ty, h2⟩ := hh
    obtain ⟨h3, h4⟩ := hb _ (lt_size h2) h1
    exact ⟨by rw [hr]; exact h3, ty, by rw [hr, h4, h2, hc.1 l rfl]⟩
  | row k g =>
    obtain ⟨h1, ty, h2⟩ := hh
    obtain ⟨h3, h4⟩ := hb _ (lt_size h2) h1
    exact ⟨by rw [hr]; exact h3, ty, by rw [hr, h4, h2, hv]⟩
  | res k g =>
    simp only [Blk.holds] at hh ⊢
    rw [hv, hr]
    exact S.loc k _ _ h h' _ _ hb hh
  | vec c ks g =>
    obtain ⟨h1, h0, hm, ty, rest, h2, h5⟩ := hh
    obtain ⟨h3, h4⟩ := hb _ (lt_size h2) h1
    refine ⟨by rw [hr]; exact h3, h0, by rw [hv]; exact hm, ty, rest, by rw [hr, h4, h2, hv], by rw [hv, hc.2 c ks g rfl]; exact h5⟩
  | chan cap g =>
    obtain ⟨h1, s, r, h2⟩ := hh
    obtain ⟨h3, h4⟩ := hb _ (lt_size h2) h1
    exact ⟨by rw [hr]; exact h3, s, r, by rw [hr, h4, h2, hv]⟩
  | inp ks off g x =>
    obtain ⟨h1, h0, hm, ob, h2, h5, h6⟩ := hh
    obtain ⟨h3, h4⟩ := hb _ (lt_size h5) h1
    exact ⟨by rw [hr]; exact h3, h0, by rw [hv]; exact hm, ob, by rw [hv]; exact h2, by rw [hr, h4, h5], by rw [hv]; exact h6⟩

theorem Sat.keep (hs : Sat S n o h H) (hb : ∀ i, i < h.size → o i ≠ 0 → o' i = o i ∧ h'[i]? = h[i]?) : Sat S n o' h' H := by
  intro p hp
  obtain ⟨h0, h1⟩ := hs p hp
  refine ⟨h0, Blk.keep rfl rfl ⟨fun _ _ => rfl, fun _ _ _ _ => rfl⟩ (fun i hi ho => ?_) h1⟩
  obtain ⟨h2, h3⟩ := hb i hi (by omega)
  exact ⟨h2.trans ho, h3⟩

/-- A draw turns nothing. -/
theorem Fr.drew (w : World) (o : Nat → Nat) : Fr w o w.drew o := ⟨rfl, rfl, rfl, Nat.le_refl _, fun _ _ h => ⟨h, rfl⟩⟩

/-- A block's row is written. -/
theorem Sat.put (hs : Sat S n o h H) {b : Blk} {r : Nat} (hid : 0 < id) (hb : b.holds S n o h' id) (ho : o r = id)
    (hsame : ∀ i, i ≠ r → h'[i]? = h[i]?) : Sat S n o h' (H.put id b) := by
  intro p hp
  unfold SH.put at hp
  rw [List.mem_map] at hp
  obtain ⟨q, hq, rfl⟩ := hp
  obtain ⟨h0, h1⟩ := hs q hq
  split
  · exact ⟨hid, hb⟩
  · rename_i hne
    simp at hne
    refine ⟨h0, Blk.keep rfl rfl ⟨fun _ _ => rfl, fun _ _ _ _ => rfl⟩ (fun i hi hoi => ⟨hoi, hsame i fun e => hne ?_⟩) h1⟩
    rw [← hoi, e, ho]

theorem setRow_size (w : World) (g : Nat) (cs : Array Value) : (w.setRow g cs).heap.size = w.heap.size := by simp [World.setRow]

theorem Fr.setRow {r : Nat} (ho : o r ≠ 0) (cs : Array Value) : Fr w o (w.setRow r cs) o :=
  ⟨rfl, rfl, rfl, by rw [setRow_size]; exact Nat.le_refl _, fun b hb h0 => ⟨h0, setRow_other w r b cs (fun e => ho (e ▸ h0))⟩⟩

theorem Sat.lt_ext (hs : Sat S n o h H) (he : Ext nx n n') (hl : H.lt nx = true) : Sat S n' o h H := by
  intro p hp
  obtain ⟨h0, h1⟩ := hs p hp
  have hlp := List.all_eq_true.1 hl p hp
  simp only [Bool.and_eq_true, decide_eq_true_eq] at hlp
  refine ⟨h0, Blk.keep he.v (he.rho _ hlp.1) ⟨fun l hl => ?_, fun c ks g hl => ?_⟩ (fun i _ hi => ⟨hi, rfl⟩) h1⟩
  · have := hlp.2
    rw [hl] at this
    exact cellsDen_ext he this
  · have := hlp.2
    rw [hl] at this
    simp only [Blk.lt, decide_eq_true_eq] at this
    exact he.rho _ this

theorem Sat.bind (hs : Sat S n o h H) {r : Nat} (hl : H.ne nx = true) : Sat S (n.bind nx r) o h H := by
  intro p hp
  obtain ⟨h0, h1⟩ := hs p hp
  have hlp := List.all_eq_true.1 hl p hp
  simp only [Bool.and_eq_true, Bool.not_eq_true', beq_eq_false_iff_ne, ne_eq] at hlp
  refine ⟨h0, Blk.keep (n := n) (n' := n.bind nx r) rfl (by simp only [Env.bind]; rw [if_neg hlp.1]) ⟨fun l hl => ?_, fun c ks g hl => ?_⟩ (fun i _ hi => ⟨hi, rfl⟩) h1⟩
  · have := hlp.2
    rw [hl] at this
    exact cellsDen_bind this
  · have := hlp.2
    rw [hl] at this
    simp only [Blk.ne, Bool.not_eq_true', beq_eq_false_iff_ne, ne_eq] at this
    simp only [Env.bind]; rw [if_neg this]

/-- A new block. -/
theorem Sat.new {l : List S1} {ty : TypeId} (hs : Sat S n o w.heap H) (h0 : 0 < nx) (hl : H.ne nx = true) (hc : l.all (S1.ne nx) = true) :
    Sat S (n.bind nx w.heap.size) (fun b => if b = w.heap.size then nx else o b) (w.alloc (.cells (cellsDen S n l).toArray ty)).heap (H.new nx (.cells l)) := by
  have h1 := hs.bind (nx := nx) (r := w.heap.size) hl
  have hold : ∀ p ∈ H, p.1 ≠ nx → 0 < p.1 ∧ p.2.holds S (n.bind nx w.heap.size) (fun b => if b = w.heap.size then nx else o b) (w.alloc (.cells (cellsDen S n l).toArray ty)).heap p.1 := by
    intro p hp' hne
    obtain ⟨h2, h3⟩ := h1 p hp'
    refine ⟨h2, Blk.keep rfl rfl ⟨fun _ _ => rfl, fun _ _ _ _ => rfl⟩ (fun i hi hoi => ?_) h3⟩
    refine ⟨?_, ?_⟩
    · rw [if_neg (by omega)]; exact hoi
    · simp only [World.alloc, Array.getElem?_push]; rw [if_neg (by omega)]
  intro p hp
  unfold SH.new at hp
  rcases List.mem_append.1 hp with hp | hp
  · obtain ⟨hp1, hp2⟩ := List.mem_filter.1 hp
    simp at hp2
    exact hold p hp1 (by omega)
  · rcases List.mem_cons.1 hp with rfl | hp
    · refine ⟨h0, ?_, ty, ?_⟩
      · simp [Env.bind]
      · rw [cellsDen_bind hc]
        show ((w.heap.push _)[if nx = nx then w.heap.size else _]?) = _
        simp
    · obtain ⟨hp1, hp2⟩ := List.mem_filter.1 hp
      simp at hp2
      exact hold p hp1 (by omega)

theorem Sat.newB {b : Blk} {ob : Obj} (hs : Sat S n o w.heap H) (h0 : 0 < nx) (hl : H.ne nx = true)
    (hb : b.holds S (n.bind nx w.heap.size) (fun b => if b = w.heap.size then nx else o b) (w.alloc ob).heap nx) :
    Sat S (n.bind nx w.heap.size) (fun b => if b = w.heap.size then nx else o b) (w.alloc ob).heap (H.new nx b) := by
  have h1 := hs.bind (nx := nx) (r := w.heap.size) hl
  have hold : ∀ p ∈ H, p.1 ≠ nx → 0 < p.1 ∧ p.2.holds S (n.bind nx w.heap.size) (fun b => if b = w.heap.size then nx else o b) (w.alloc ob).heap p.1 := by
    intro p hp' hne
    obtain ⟨h2, h3⟩ := h1 p hp'
    refine ⟨h2, Blk.keep rfl rfl ⟨fun _ _ => rfl, fun _ _ _ _ => rfl⟩ (fun i hi hoi => ?_) h3⟩
    refine ⟨?_, ?_⟩
    · rw [if_neg (by omega)]; exact hoi
    · simp only [World.alloc, Array.getElem?_push]; rw [if_neg (by omega)]
  intro p hp
  unfold SH.new at hp
  rcases List.mem_append.1 hp with hp | hp
  · obtain ⟨hp1, hp2⟩ := List.mem_filter.1 hp
    simp at hp2
    exact hold p hp1 (by omega)
  · rcases List.mem_cons.1 hp with rfl | hp
    · exact ⟨h0, hb⟩
    · obtain ⟨hp1, hp2⟩ := List.mem_filter.1 hp
      simp at hp2
      exact hold p hp1 (by omega)

theorem Fr.alloc (ob : Obj) (k : Nat) : Fr w o (w.alloc ob) (fun b => if b = w.heap.size then k else o b) :=
  ⟨rfl, rfl, rfl, by simp, fun b hb h0 => by
    refine ⟨?_, ?_⟩
    · show (if b = w.heap.size then k else o b) = 0
      rw [if_neg (by omega)]; exact h0
    · simp only [World.alloc, Array.getElem?_push]; rw [if_neg (by omega)]⟩

/-! ### loads and stores -/
theorem add_plain (b p i : Nat) : (⟨b, p, none⟩ : Addr).add i = ⟨b, p + i, none⟩ := by unfold Addr.add; split <;> simp_all

theorem run_loadVar_agg {t : TypeId} {f : TypeInfo} {d : TypeDesc} (hf : P.info? t = some f) (hd : P.underlying t = some d) (hagg : isAggT (slim d) = true)
    {b p : Nat} {cs : List Value} (hlen : cs.length = f.size) (hc : ∀ j v, cs[j]? = some v → w.cell? ⟨b, p + j, none⟩ = some v) :
    (loadVar t ⟨b, p, none⟩).run P w = .ok (.agg cs.toArray) w := by
  simp only [loadVar, Sem.run_bind, run_isAgg' hd, Result.andThen_ok, hagg, if_true, run_sizeOf' hf, ← hlen]
  rw [run_loadCells_list (P := P) w ⟨b, p, none⟩ cs (fun j v hj => by rw [add_plain]; exact hc j v hj)]
  simp

theorem run_loadVar_one {t : TypeId} {d : TypeDesc} (hd : P.underlying t = some d) (hagg : isAggT (slim d) = false)
    {b p : Nat} {v : Value} (hc : w.cell? ⟨b, p, none⟩ = some v) : (loadVar t ⟨b, p, none⟩).run P w = .ok v w := by
  simp only [loadVar, Sem.run_bind, run_isAgg' hd, Result.andThen_ok, hagg, Bool.false_eq_true, if_false, run_load, hc]

theorem cell_of_heap {b p : Nat} {cs : Array Value} {ty : TypeId} {fr : Nat × Nat} (hb : w.heap[b]? = some (.cells cs ty fr)) : w.cell? ⟨b, p, none⟩ = cs[p]? := by
  simp [World.cell?, hb]

theorem cells_of_heap {b : Nat} {l : List Value} {ty : TypeId} {fr : Nat × Nat} (hb : w.heap[b]? = some (.cells l.toArray ty fr)) (p : Nat) : w.cell? ⟨b, p, none⟩ = l[p]? := by
  rw [cell_of_heap hb]; simp

theorem run_storeVar {t : TypeId} {f : TypeInfo} (hf : P.info? t = some f) {b p : Nat} {l vs : List Value} {ty : TypeId} (hb : w.heap[b]? = some (.cells l.toArray ty (0, 0)))
    {v : Value} (hv : v.cells = vs.toArray) (hlen : vs.length = f.size) (hfit : p + vs.length ≤ l.length) (h1 : ∀ x ∈ vs, x.oneCell' = true) :
    (storeVar t ⟨b, p, none⟩ v).run P w = .ok () (w.setRow b (l.take p ++ vs ++ l.drop (p + vs.length)).toArray) := by
  have := run_storeCells_at P b p ty vs 0 l.toArray w hb (by simpa using hfit) h1
  simp only [Nat.add_zero] at this
  simp only [storeVar, Sem.run_bind, run_sizeOf' hf, Result.andThen_ok, hv]
  rw [if_neg (by simpa using hlen)]
  simpa using this

theorem cellsx_den {v : SV} {l : List S1} (hv : cellsx v = some l) : (v.den S n).cells = (cellsDen S n l).toArray := by
  cases v with
  | tup l' => simp [cellsx] at hv
  | one x =>
    cases x with
    | c y =>
      simp [cellsx] at hv; subst hv
      have := S1.cell1 S n y
      simp only [SV.den, S2.den, cellsDen, List.map_cons, List.map_nil]
      cases hy : y.den S n <;> simp [Value.cells] <;> rw [hy] at this <;> simp [Value.oneCell'] at this
    | agg l' =>
      simp [cellsx] at hv; subst hv
      simp [SV.den, S2.den, Value.cells]

theorem cellsDen_one (l : List S1) : ∀ x ∈ cellsDen S n l, x.oneCell' = true := by
  intro x hx
  obtain ⟨y, _, rfl⟩ := List.mem_map.1 hx
  exact S1.cell1 S n y

end Go.Sx

/- The symbolic executor, part 5: each operation is sound. -/
namespace Go.Sx
open Go
set_option linter.unusedSimpArgs false
set_option linter.unusedVariables false

variable {U : Type} {S : Sig U} {n n' : Env U} {P : Program} {T : Tab} {w w' : World} {a : Act} {pa : Path} {tm : List SV} {H : SH} {nx id : Nat} {o o' : Nat → Nat} {h h' : Array Obj}

/-- What an 'OR' says of what is run. -/
def OR.snd (S : Sig U) (n : Env U) (o : Nat → Nat) (P : Program) (w : World) (tm : List SV) (nx : Nat) (s : Sem Next) : OR → Prop
  | .val v => ∀ w', s.run P w' = .ok (.value (v.den S n)) w'
  | .ld v => s.run P w = .ok (.value (v.den S n)) w
  | .eff v H' nx' => ∃ n' o' w' r, s.run P w = .ok r w' ∧ (r = .value (v.den S n') ∨ (r = .skip ∧ v = SV.undef)) ∧ Sat S n' o' w'.heap H' ∧ Fr w o w' o' ∧ Ext nx n n' ∧ tm.map (SV.den S n') = tm.map (SV.den S n) ∧ nx ≤ nx'
  | .call f args => ∀ w', s.run P w' = .ok (.enter f (args.map (SV.den S n)).toArray) w'
  | _ => True

/-- The same of what yields a value. -/
def OR.sv (S : Sig U) (n : Env U) (o : Nat → Nat) (P : Program) (w : World) (tm : List SV) (nx : Nat) (s : Sem Value) : OR → Prop
  | .val v => ∀ w', s.run P w' = .ok (v.den S n) w'
  | .ld v => s.run P w = .ok (v.den S n) w
  | .eff v H' nx' => ∃ n' o' w', s.run P w = .ok (v.den S n') w' ∧ Sat S n' o' w'.heap H' ∧ Fr w o w' o' ∧ Ext nx n n' ∧ tm.map (SV.den S n') = tm.map (SV.den S n) ∧ nx ≤ nx'
  | .call _ _ => False
  | _ => True

theorem pure_sv {s : Sem Value} {r : OR} (h : OR.pure S n P s r) : OR.sv S n o P w tm nx s r := by
  cases r <;> first | trivial | exact h.elim | exact h

theorem sv_snd {s : Sem Value} {r : OR} (h : OR.sv S n o P w tm nx s r) : OR.snd S n o P w tm nx (do pure (Next.value (← s))) r := by
  cases r with
  | val v => intro w'; simp [h w']
  | ld v =>
    have h : s.run P w = .ok (v.den S n) w := h
    show Sem.run P _ w = _
    simp [h]
  | eff v H' nx' =>
    obtain ⟨n', o', w', h1, h2⟩ := h
    exact ⟨n', o', w', .value (v.den S n'), by simp [h1], .inl rfl, h2⟩
  | call f args => exact h.elim
  | _ => trivial

theorem need_sv (hp : PT S n.v pa) {b : E} {k : OR} {s : Sem Value} (h : (b.den S n.v).toBool = true → OR.sv S n o P w tm nx s k) : OR.sv S n o P w tm nx s (need pa b k) := by
  unfold need
  split
  · rename_i hd; exact h (dec_sound hp hd)
  · trivial
  · trivial
theorem need_snd (hp : PT S n.v pa) {b : E} {k : OR} {s : Sem Next} (h : (b.den S n.v).toBool = true → OR.snd S n o P w tm nx s k) : OR.snd S n o P w tm nx s (need pa b k) := by
  unfold need
  split
  · rename_i hd; exact h (dec_sound hp hd)
  · trivial
  · trivial

theorem o1x_snd {s : Sem Next} {r : Option SV} {k : SV → OR} (h : ∀ v, r = some v → OR.snd S n o P w tm nx s (k v)) : OR.snd S n o P w tm nx s (o1x r k) := by
  unfold o1x
  split
  · exact h _ rfl
  · trivial

theorem cells_take {l : List S1} {q m : Nat} (hfit : q + m ≤ l.length) {hp : Array Obj} {w : World} {b : Nat} {ty : TypeId} (hb : w.heap[b]? = some (.cells (cellsDen S n l).toArray ty (0, 0))) :
    ∀ j v, (cellsDen S n ((l.drop q).take m))[j]? = some v → w.cell? ⟨b, q + j, none⟩ = some v := by
  intro j v hj
  rw [cells_of_heap hb]
  simp only [cellsDen, List.getElem?_map, List.getElem?_take, List.getElem?_drop] at hj ⊢
  split at hj
  · exact hj
  · simp at hj

/-! ### records -/
theorem recVals_length (ks : List RK) (l : List Int) : (recVals ks l).length = l.length := by simp [recVals]
theorem recVals_get? (ks : List RK) (l : List Int) (j : Nat) : (recVals ks l)[j]? = (l[j]?).map (cellOf ks j) := by
  simp only [recVals, List.getElem?_map, List.getElem?_zipIdx]
  cases l[j]? <;> simp
theorem cellOf_add (ks : List RK) {m : Nat} (j : Nat) (x : Int) (h : m % ks.length = 0) : cellOf ks (m + j) x = cellOf ks j x := by
  unfold cellOf; rw [Nat.add_mod, h, Nat.zero_add, Nat.mod_mod]
theorem recVals_append (ks : List RK) {l : List Int} (r : List Int) (h : l.length % ks.length = 0) : recVals ks (l ++ r) = recVals ks l ++ recVals ks r := by
  apply List.ext_getElem?
  intro j
  rw [recVals_get?, List.getElem?_append, List.getElem?_append, recVals_length]
  split
  · rw [recVals_get?]
  · rename_i hj
    rw [recVals_get?]
    obtain ⟨i, rfl⟩ : ∃ i, j = l.length + i := ⟨j - l.length, by omega⟩
    rw [Nat.add_sub_cancel_left]
    cases r[i]? with
    | none => rfl
    | some x => simp only [Option.map_some, cellOf_add ks i x h]
theorem recVals_set (ks : List RK) (l : List Int) (j : Nat) (x : Int) : recVals ks (l.set j x) = (recVals ks l).set j (cellOf ks j x) := by
  apply List.ext_getElem?
  intro i
  rw [recVals_get?, List.getElem?_set, List.getElem?_set, recVals_length, recVals_get?]
  by_cases h : j = i
  · subst h
    rw [if_pos rfl, if_pos rfl]
    split <;> rfl
  · rw [if_neg h, if_neg h]
theorem cellE_sound {k : RK} {x : S1} {e : E} (h : cellE k x = some e) : valK k (e.den S n.v).toInt = x.den S n := by
  unfold cellE at h
  split at h
  · split at h
    · rename_i hk; subst hk
      simp at h; subst h
      rfl
    · simp at h
  · simp at h; subst h
    rename_i e
    simp only [E.den, O1.ap, G.toInt_int, valK, S1.den, b2z]
    cases (e.den S n.v).toBool <;> rfl
  · simp at h
theorem cellAt_den {ks : List RK} (g i : E) {fo : Nat} (hf : fo < ks.length) : (cellAt ks g i fo).den S n = cellOf ks ((i.den S n.v).toInt.toNat * ks.length + fo) ((g.den S n.v).toInts.getD ((i.den S n.v).toInt.toNat * ks.length + fo) 0) := by
  have hm : ((i.den S n.v).toInt.toNat * ks.length + fo) % ks.length = fo % ks.length := by rw [Nat.add_comm, Nat.add_mul_mod_self_right]
  unfold cellAt cellOf
  rw [hm]
  split <;> rename_i hk <;> rw [hk] <;> rfl
theorem recs_sound {b : Blk} {ks : List RK} {off g : E} (hr : recs b = some (ks, off, g)) (hb : b.holds S n o w.heap id) :
    0 < ks.length ∧ (g.den S n.v).toInts.length % ks.length = 0 ∧ ∀ j v, (recVals ks (g.den S n.v).toInts)[j]? = some v → w.cell? ⟨n.rho id, (off.den S n.v).toInt.toNat + j, none⟩ = some v := by
  cases b with
  | vec cid ks' g' =>
    simp only [recs, Option.some.injEq, Prod.mk.injEq] at hr
    obtain ⟨rfl, rfl, rfl⟩ := hr
    obtain ⟨_, h0, hm, ty, rest, h2, _⟩ := hb
    refine ⟨h0, hm, fun j v hj => ?_⟩
    rw [cells_of_heap h2]
    have hjl : j < (recVals ks' (g'.den S n.v).toInts).length := (List.getElem?_eq_some_iff.1 hj).1
    simp only [E.den, G.toInt_int, Int.toNat_zero, Nat.zero_add]
    rw [List.getElem?_append_left hjl]
    exact hj
  | inp ks' off' g' x =>
    simp only [recs, Option.some.injEq, Prod.mk.injEq] at hr
    obtain ⟨rfl, rfl, rfl⟩ := hr
    obtain ⟨_, h0, hm, ob, h2, h3, h4⟩ := hb
    refine ⟨h0, hm, fun j v hj => ?_⟩
    have h5 := h4 j v hj
    cases ob with
    | cells cs ty fr =>
      rw [cell_of_heap h3]
      simpa [objCells] using h5
    | _ => simp [objCells] at h5
  | _ => simp [recs] at hr
theorem inRec_sv (hp : PT S n.v pa) {sz : Nat} (hsz : 0 < sz) {g i : E} {k : OR} {s : Sem Value}
    (h : 0 ≤ (i.den S n.v).toInt → (i.den S n.v).toInt.toNat * sz + sz ≤ (g.den S n.v).toInts.length → OR.sv S n o P w tm nx s k) : OR.sv S n o P w tm nx s (inRec pa sz g i k) := by
  unfold inRec
  refine need_sv hp fun h1 => need_sv hp fun h2 => ?_
  simp only [den_mk1, den_mk2, O1.ap, O2.ap, G.toBool_bool, E.den, G.toInt_int, Bool.not_eq_true', decide_eq_false_iff_not, decide_eq_true_eq] at h1 h2
  have h1 := of_decide_eq_false h1
  refine h (by omega) ?_
  have h3 : (i.den S n.v).toInt.toNat < (g.den S n.v).toInts.length / sz := by
    have h2' := of_decide_eq_true h2
    clear h2
    generalize (g.den S n.v).toInts.length / sz = q at h2' ⊢
    omega
  have h4 := Nat.div_mul_le_self (g.den S n.v).toInts.length sz
  have h5 : ((i.den S n.v).toInt.toNat + 1) * sz ≤ (g.den S n.v).toInts.length / sz * sz := Nat.mul_le_mul_right _ h3
  rw [Nat.add_mul, Nat.one_mul] at h5
  omega
theorem inRec_snd (hp : PT S n.v pa) {sz : Nat} (hsz : 0 < sz) {g i : E} {k : OR} {s : Sem Next}
    (h : 0 ≤ (i.den S n.v).toInt → (i.den S n.v).toInt.toNat * sz + sz ≤ (g.den S n.v).toInts.length → OR.snd S n o P w tm nx s k) : OR.snd S n o P w tm nx s (inRec pa sz g i k) := by
  unfold inRec
  refine need_snd hp fun h1 => need_snd hp fun h2 => ?_
  simp only [den_mk1, den_mk2, O1.ap, O2.ap, G.toBool_bool, E.den, G.toInt_int, Bool.not_eq_true', decide_eq_false_iff_not, decide_eq_true_eq] at h1 h2
  have h1 := of_decide_eq_false h1
  refine h (by omega) ?_
  have h3 : (i.den S n.v).toInt.toNat < (g.den S n.v).toInts.length / sz := by
    have h2' := of_decide_eq_true h2
    clear h2
    generalize (g.den S n.v).toInts.length / sz = q at h2' ⊢
    omega
  have h4 := Nat.div_mul_le_self (g.den S n.v).toInts.length sz
  have h5 : ((i.den S n.v).toInt.toNat + 1) * sz ≤ (g.den S n.v).toInts.length / sz * sz := Nat.mul_le_mul_right _ h3
  rw [Nat.add_mul, Nat.one_mul] at h5
  omega
theorem recLoad_sound (hT : T.ok P) (hp : PT S n.v pa) {t : TypeId} {ti : TI} (hti : T.ti t = some ti) {b : Blk} (hb : b.holds S n o w.heap id) (q i : E) (sz fo : Nat) :
    OR.sv S n o P w tm nx (Instr.loadAt t ((SV.one (.c (.rp id q i sz fo))).den S n)) (recLoad pa b q i sz fo ti) := by
  unfold recLoad
  obtain ⟨f, d, hf, hd, e1, e2, _⟩ := hT.info hti
  split
  · rename_i ks off g hr
    split
    · rename_i hc
      obtain ⟨rfl, rfl, hfo, hts⟩ := hc
      obtain ⟨hk, hm, hv⟩ := recs_sound hr hb
      refine inRec_sv hp hk fun h1 h2 => ?_
      have hsure : ∀ w : World, (Instr.sureAddr ((SV.one (.c (.rp id q i ks.length fo))).den S n)).run P w = .ok ⟨n.rho id, (q.den S n.v).toInt.toNat + ((i.den S n.v).toInt.toNat * ks.length + fo), none⟩ w := fun _ => rfl
      have hcell : ∀ j, fo + j < ks.length → w.cell? ⟨n.rho id, (q.den S n.v).toInt.toNat + ((i.den S n.v).toInt.toNat * ks.length + fo) + j, none⟩ = some ((cellAt ks g i (fo + j)).den S n) := fun j hj => by
        rw [cellAt_den g i hj, Nat.add_assoc]
        refine hv _ _ ?_
        rw [recVals_get?, Nat.add_assoc, List.getD_eq_getElem?_getD]
        have hlt : (i.den S n.v).toInt.toNat * ks.length + (fo + j) < (g.den S n.v).toInts.length := by omega
        rw [List.getElem?_eq_getElem hlt]
        simp
      split
      · rename_i hagg
        show Sem.run P _ w = _
        simp only [Instr.loadAt, Sem.run_bind, hsure, Result.andThen_ok]
        rw [run_loadVar_agg hf hd (by rw [← e1]; exact hagg) (cs := cellsDen S n ((List.range ti.size).map fun j => cellAt ks g i (fo + j))) (by simp [cellsDen, e2]) (fun j v hj => ?_)]
        · rfl
        · simp only [cellsDen, List.map_map, List.getElem?_map] at hj
          cases hj2 : (List.range ti.size)[j]? with
          | none => rw [hj2] at hj; simp at hj
          | some y =>
            rw [hj2] at hj
            obtain ⟨hlt, hy⟩ := List.getElem?_eq_some_iff.1 hj2
            simp at hy hlt; subst hy
            simp at hj; rw [← hj]
            exact hcell j (by omega)
      · rename_i hagg
        split
        · rename_i hone
          show Sem.run P _ w = _
          simp only [Instr.loadAt, Sem.run_bind, hsure, Result.andThen_ok]
          have hc0 := hcell 0 (by omega)
          simp only [Nat.add_zero] at hc0
          rw [run_loadVar_one hd (by rw [← e1]; simpa using hagg) hc0]
          rfl
        · trivial
    · trivial
  · trivial

theorem loadx_sound (hT : T.ok P) (hp : PT S n.v pa) (hs : Sat S n o w.heap H) (t : TypeId) (x : SV) : OR.sv S n o P w tm nx (Instr.loadAt t (x.den S n)) (loadx T pa H t x) := by
  unfold loadx
  split
  · rename_i id q i sz fo ti hti
    split
    · rename_i b hb
      exact recLoad_sound hT hp hti (hs.get hb).2 q i sz fo
    · trivial
  · rename_i id off i hi
    obtain ⟨f, d, hf, hd, e1, e2, _⟩ := hT.info hi
    have hsure : ∀ w : World, (Instr.sureAddr ((SV.one (.c (.ptr id off))).den S n)).run P w = .ok ⟨n.rho id, (off.den S n.v).toInt.toNat, none⟩ w := fun _ => rfl
    split
    · rename_i l hl
      obtain ⟨_, _, ty, hb⟩ := hs.get hl
      split
      · rename_i q
        split
        · rename_i hagg
          split
          · rename_i hfit
            show Sem.run P _ w = _
            simp only [Instr.loadAt, Sem.run_bind, hsure, Result.andThen_ok, E.den, G.toInt_int]
            rw [run_loadVar_agg hf hd (by rw [← e1]; exact hagg) (cs := cellsDen S n ((l.drop q.toNat).take i.size)) (by simp [cellsDen]; omega) (cells_take hfit (hp := w.heap) hb)]
            rfl
          · trivial
        · rename_i hagg
          split
          · rename_i c hc
            show Sem.run P _ w = _
            simp only [Instr.loadAt, Sem.run_bind, hsure, Result.andThen_ok, E.den, G.toInt_int]
            rw [run_loadVar_one hd (by rw [← e1]; simpa using hagg) (v := c.den S n) (by rw [cells_of_heap hb]; simp [cellsDen, hc])]
            rfl
          · trivial
      · trivial
    · rename_i k g hl
      obtain ⟨_, _, ty, hb⟩ := hs.get hl
      split
      · trivial
      · rename_i hagg
        split
        · rename_i k
          refine need_sv hp fun hin => ?_
          show Sem.run P _ w = _
          simp only [den_mk2, O2.ap, G.toBool_bool, decide_eq_true_eq] at hin
          simp only [Instr.loadAt, Sem.run_bind, hsure, Result.andThen_ok]
          rw [run_loadVar_one hd (by rw [← e1]; simpa using hagg) (v := .int k ((g.den S n.v).toInts.getD (off.den S n.v).toInt.toNat 0)) (by rw [cells_of_heap hb]; simp [rowVals, hin])]
          simp [SV.den, S2.den, S1.den, den_mk2, O2.ap]
        · refine need_sv hp fun hin => ?_
          show Sem.run P _ w = _
          simp only [den_mk2, O2.ap, G.toBool_bool, decide_eq_true_eq] at hin
          simp only [Instr.loadAt, Sem.run_bind, hsure, Result.andThen_ok]
          rw [run_loadVar_one hd (by rw [← e1]; simpa using hagg) (v := .bool ((g.den S n.v).toBools.getD (off.den S n.v).toInt.toNat false)) (by rw [cells_of_heap hb]; simp [rowVals, hin])]
          simp [SV.den, S2.den, S1.den, den_mk2, O2.ap]
    · trivial
  · trivial

theorem take_set_drop {α : Type} (l : List α) (i : Nat) (x : α) (h : i < l.length) : l.take i ++ [x] ++ l.drop (i + 1) = l.set i x := by
  induction l generalizing i with
  | nil => simp at h
  | cons y l ih =>
    cases i with
    | zero => simp
    | succ i => simp at h; simp [← ih i h]

theorem setRs_sound {ks : List RK} {i : E} (hk : 0 < ks.length) : ∀ {vs : List S1} {fo : Nat} {g g' : E}, setRs ks i ks.length fo g vs = some g' → fo + vs.length ≤ ks.length →
    (i.den S n.v).toInt.toNat * ks.length + ks.length ≤ (g.den S n.v).toInts.length →
    (g'.den S n.v).toInts.length = (g.den S n.v).toInts.length ∧
    recVals ks (g'.den S n.v).toInts = (recVals ks (g.den S n.v).toInts).take ((i.den S n.v).toInt.toNat * ks.length + fo) ++ cellsDen S n vs ++ (recVals ks (g.den S n.v).toInts).drop ((i.den S n.v).toInt.toNat * ks.length + fo + vs.length)
  | [], fo, g, g', h, hf, hl => by
    simp only [setRs, Option.some.injEq] at h
    subst h
    simp [cellsDen]
  | x :: l, fo, g, g', h, hf, hl => by
    simp only [setRs] at h
    simp only [List.length_cons] at hf
    split at h
    · rename_i e he
      have hx := cellE_sound (S := S) (n := n) he
      generalize hp : (i.den S n.v).toInt.toNat * ks.length = p at *
      have hg1 : ((E.o3 (.setR ks.length fo) g i e).den S n.v).toInts = (g.den S n.v).toInts.set (p + fo) (e.den S n.v).toInt := by simp only [E.den, O3.ap, G.toInts_ints, hp]
      obtain ⟨h1, h2⟩ := setRs_sound hk h (by omega) (by rw [hg1, List.length_set, hp]; exact hl)
      rw [hg1, List.length_set] at h1
      refine ⟨h1, ?_⟩
      rw [hg1, recVals_set, hp] at h2
      have hc : cellOf ks (p + fo) (e.den S n.v).toInt = x.den S n := by
        rw [← hx]
        unfold cellOf
        have : (p + fo) % ks.length = fo % ks.length := by rw [← hp, Nat.add_comm, Nat.add_mul_mod_self_right]
        rw [this]
      rw [hc] at h2
      rw [h2]
      have hL : p + fo < (recVals ks (g.den S n.v).toInts).length := by rw [recVals_length]; omega
      generalize recVals ks (g.den S n.v).toInts = L at *
      have e1 : (L.set (p + fo) (x.den S n)).take (p + (fo + 1)) = L.take (p + fo) ++ [x.den S n] := by
        rw [← Nat.add_assoc, List.take_succ_eq_append_getElem (by rw [List.length_set]; exact hL), List.take_set_of_le (Nat.le_refl _), List.getElem_set_self]
      have e2 : (L.set (p + fo) (x.den S n)).drop (p + (fo + 1) + l.length) = L.drop (p + fo + (l.length + 1)) := by
        rw [List.drop_set_of_lt (by omega)]
        congr 1; omega
      rw [e1, e2]
      simp [cellsDen]
    · simp at h
theorem recStore_sound (hT : T.ok P) (hp : PT S n.v pa) (hs : Sat S n o w.heap H) {t : TypeId} {ti : TI} (hti : T.ti t = some ti) {b : Blk} (hb : H.get id = some b) (i : E) (sz fo : Nat) {v : SV} {vs : List S1}
    (hvs : cellsx v = some vs) (hlen : vs.length = ti.size) :
    OR.snd S n o P w tm nx (do Instr.storeAt t ((SV.one (.c (.rp id (.int 0) i sz fo))).den S n) (v.den S n); pure Next.skip) (recStore pa H nx id i sz fo vs b) := by
  unfold recStore
  obtain ⟨f, d, hf, hd, e1, e2, _⟩ := hT.info hti
  split
  · rename_i cid ks g
    split
    · rename_i hc
      obtain ⟨rfl, hfo⟩ := hc
      obtain ⟨hid, ho, hk, hm, ty, rest, hh, hcap⟩ := hs.get hb
      split
      · rename_i g' hg'
        refine inRec_snd hp hk fun h1 h2 => ?_
        obtain ⟨q1, q2⟩ := setRs_sound (S := S) (n := n) hk hg' hfo h2
        have hsure : ∀ w : World, (Instr.sureAddr ((SV.one (.c (.rp id (.int 0) i ks.length fo))).den S n)).run P w = .ok ⟨n.rho id, (i.den S n.v).toInt.toNat * ks.length + fo, none⟩ w := fun _ => by
          show Result.ok _ _ = _
          simp [E.den]
        have hrun := run_storeVar (w := w) (p := (i.den S n.v).toInt.toNat * ks.length + fo) hf hh (cellsx_den (n := n) (S := S) hvs) (by simp [cellsDen]; omega) (by simp [cellsDen, recVals_length]; omega) (cellsDen_one vs)
        refine ⟨n, o, w.setRow (n.rho id) (List.take ((i.den S n.v).toInt.toNat * ks.length + fo) (recVals ks (g.den S n.v).toInts ++ rest) ++ cellsDen S n vs ++ List.drop ((i.den S n.v).toInt.toNat * ks.length + fo + (cellsDen S n vs).length) (recVals ks (g.den S n.v).toInts ++ rest)).toArray, .skip, ?_, .inr ⟨rfl, rfl⟩, hs.put hid ⟨ho, hk, by rw [q1]; exact hm, ty, rest, ?_, by rw [q1]; exact hcap⟩ ho (fun i hi => setRow_other w _ i _ hi), Fr.setRow (by omega) _, Ext.refl _ _, rfl, Nat.le_refl _⟩
        · simp only [Instr.storeAt, Sem.run_bind, hsure, Result.andThen_ok, hrun, Sem.run_pure]
        · rw [setRow_heap w _ _ _ _ _ hh, q2]
          have hl1 : (i.den S n.v).toInt.toNat * ks.length + fo ≤ (recVals ks (g.den S n.v).toInts).length := by rw [recVals_length]; omega
          have hl2 : (i.den S n.v).toInt.toNat * ks.length + fo + vs.length ≤ (recVals ks (g.den S n.v).toInts).length := by rw [recVals_length]; omega
          simp only [cellsDen, List.length_map, List.take_append_of_le_length hl1, List.drop_append_of_le_length hl2, List.append_assoc]
      · trivial
    · trivial
  · trivial

theorem storex_sound (hT : T.ok P) (hp : PT S n.v pa) (hs : Sat S n o w.heap H) (t : TypeId) (x v : SV) :
    OR.snd S n o P w tm nx (do Instr.storeAt t (x.den S n) (v.den S n); pure Next.skip) (storex T pa H nx t x v) := by
  unfold storex
  split
  · rename_i id i sz fo ti vs hti hvs
    split
    · rename_i hlen
      split
      · rename_i b hb
        exact recStore_sound hT hp hs hti hb i sz fo hvs hlen
      · trivial
    · trivial
  · rename_i id off i vs hi hvs
    obtain ⟨f, d, hf, hd, e1, e2, _⟩ := hT.info hi
    have hsure : ∀ w : World, (Instr.sureAddr ((SV.one (.c (.ptr id off))).den S n)).run P w = .ok ⟨n.rho id, (off.den S n.v).toInt.toNat, none⟩ w := fun _ => rfl
    split
    · rename_i hlen
      split
      · rename_i l hl
        obtain ⟨hid, ho, ty, hb⟩ := hs.get hl
        split
        · rename_i q
          split
          · rename_i hfit
            have hrun := run_storeVar (w := w) (p := q.toNat) hf hb (cellsx_den (n := n) (S := S) hvs) (by simp [cellsDen]; omega) (by simpa [cellsDen] using hfit) (cellsDen_one vs)
            refine ⟨n, o, w.setRow (n.rho id) (List.take q.toNat (cellsDen S n l) ++ cellsDen S n vs ++ List.drop (q.toNat + (cellsDen S n vs).length) (cellsDen S n l)).toArray, .skip, ?_, .inr ⟨rfl, rfl⟩, hs.put hid ⟨ho, ty, ?_⟩ ho (fun i hi => setRow_other w _ i _ hi), Fr.setRow (by omega) _, Ext.refl _ _, rfl, Nat.le_refl _⟩
            · simp only [Instr.storeAt, Sem.run_bind, hsure, Result.andThen_ok, E.den, G.toInt_int, hrun, Sem.run_pure]
            · rw [setRow_heap w _ _ _ _ _ hb]
              simp [cellsDen]
          · trivial
        · trivial
      · rename_i k g hl
        obtain ⟨hid, ho, ty, hb⟩ := hs.get hl
        split
        · rename_i k k' e
          split
          · rename_i hk; subst hk
            refine need_snd hp fun hin => ?_
            simp only [den_mk2, O2.ap, G.toBool_bool, decide_eq_true_eq] at hin
            have hrun := run_storeVar (w := w) (p := (off.den S n.v).toInt.toNat) hf hb (cellsx_den (n := n) (S := S) hvs) (by simp [cellsDen] at hlen ⊢; omega) (by simp [cellsDen, rowVals]; omega) (cellsDen_one _)
            refine ⟨n, o, w.setRow (n.rho id) (List.take (off.den S n.v).toInt.toNat (rowVals (RK.int k) (g.den S n.v)) ++ cellsDen S n [.int k e] ++ List.drop ((off.den S n.v).toInt.toNat + (cellsDen S n [.int k e]).length) (rowVals (RK.int k) (g.den S n.v))).toArray, .skip, ?_, .inr ⟨rfl, rfl⟩, hs.put hid ⟨ho, ty, ?_⟩ ho (fun i hi => setRow_other w _ i _ hi), Fr.setRow (by omega) _, Ext.refl _ _, rfl, Nat.le_refl _⟩
            · simp only [Instr.storeAt, Sem.run_bind, hsure, Result.andThen_ok, hrun, Sem.run_pure]
            · rw [setRow_heap w _ _ _ _ _ hb]
              have := take_set_drop (rowVals (RK.int k) (g.den S n.v)) (off.den S n.v).toInt.toNat (.int k (e.den S n.v).toInt) (by simpa [rowVals] using hin)
              simp only [cellsDen, List.map_cons, List.map_nil, S1.den, List.length_cons, List.length_nil, Nat.zero_add]
              rw [this]
              simp [rowVals, E.den, O3.ap, List.map_set]
          · trivial
        · rename_i e
          refine need_snd hp fun hin => ?_
          simp only [den_mk2, O2.ap, G.toBool_bool, decide_eq_true_eq] at hin
          have hrun := run_storeVar (w := w) (p := (off.den S n.v).toInt.toNat) hf hb (cellsx_den (n := n) (S := S) hvs) (by simp [cellsDen] at hlen ⊢; omega) (by simp [cellsDen, rowVals]; omega) (cellsDen_one _)
          refine ⟨n, o, w.setRow (n.rho id) (List.take (off.den S n.v).toInt.toNat (rowVals RK.bool (g.den S n.v)) ++ cellsDen S n [.bool e] ++ List.drop ((off.den S n.v).toInt.toNat + (cellsDen S n [.bool e]).length) (rowVals RK.bool (g.den S n.v))).toArray, .skip, ?_, .inr ⟨rfl, rfl⟩, hs.put hid ⟨ho, ty, ?_⟩ ho (fun i hi => setRow_other w _ i _ hi), Fr.setRow (by omega) _, Ext.refl _ _, rfl, Nat.le_refl _⟩
          · simp only [Instr.storeAt, Sem.run_bind, hsure, Result.andThen_ok, hrun, Sem.run_pure]
          · rw [setRow_heap w _ _ _ _ _ hb]
            have := take_set_drop (rowVals RK.bool (g.den S n.v)) (off.den S n.v).toInt.toNat (.bool (e.den S n.v).toBool) (by simpa [rowVals] using hin)
            simp only [cellsDen, List.map_cons, List.map_nil, S1.den, List.length_cons, List.length_nil, Nat.zero_add]
            rw [this]
            simp [rowVals, E.den, O3.ap, List.map_set]
        · trivial
      · trivial
    · trivial
  · trivial

theorem newx_sound (hs : Sat S n o w.heap H) (l : List S1) (t : TypeId) {v : Value} (hv : v.cells = (cellsDen S n l).toArray) :
    OR.sv S n o P w tm nx (do pure (.pointer (some (← newVar t v)))) (newx tm H nx l) := by
  unfold newx
  split
  · rename_i hc
    simp only [Bool.and_eq_true, decide_eq_true_eq] at hc
    obtain ⟨⟨⟨h0, h1⟩, h2⟩, h3⟩ := hc
    refine ⟨n.bind nx w.heap.size, _, w.alloc (.cells (cellsDen S n l).toArray t), ?_, hs.new h0 h2 h3, Fr.alloc _ nx, Env.bind_ext _ _ _, SVs.den_bind h1, Nat.le_succ _⟩
    simp only [newVar, newRow, Sem.run_bind, run_newObj, Result.andThen_ok, Sem.run_pure, hv]
    simp [SV.den, S2.den, S1.den, E.den, Env.bind]
  · trivial

theorem allocx_sound (hT : T.ok P) (hs : Sat S n o w.heap H) (t : TypeId) : OR.sv S n o P w tm nx (Instr.alloc t true (.tuple #[])) (allocx T tm H nx t) := by
  unfold allocx
  cases hi : T.ti t with
  | none => simp; trivial
  | some i =>
    obtain ⟨f, d, hf, hd, e1, e2, e3, e4, _⟩ := hT.info hi
    simp only [Option.bind_some]
    cases hz : i.zero with
    | none => trivial
    | some z =>
      rw [hz] at e4
      obtain ⟨zv, hzv, hz2⟩ := Option.bind_eq_some_iff.1 e4.symm
      have hden : z.den S n = zv := S2.ofValue_den hz2
      have hrun : ∀ (l : List S1), zv.cells = (cellsDen S n l).toArray → OR.sv S n o P w tm nx (Instr.alloc t true (.tuple #[])) (newx tm H nx l) := by
        intro l hl
        have h1 := newx_sound (tm := tm) (nx := nx) (P := P) hs l t hl
        have e : ∀ w, Sem.run P (Instr.alloc t true (.tuple #[])) w = Sem.run P (do pure (.pointer (some (← newVar t zv)))) w := by
          intro w
          simp [Instr.alloc, run_zeroValue' hf hzv]
        generalize newx tm H nx l = r at h1
        cases r with
        | val v => intro w'; rw [e]; exact h1 w'
        | ld v => show Sem.run P _ w = _; rw [e]; exact h1
        | eff v H' nx' =>
          obtain ⟨n', o', w', h1, h2⟩ := h1
          exact ⟨n', o', w', by rw [e]; exact h1, h2⟩
        | call f args => exact h1
        | _ => trivial
      cases z with
      | c x => exact hrun [x] (by rw [← hden]; exact cellsx_den (v := .one (.c x)) rfl)
      | agg l => exact hrun l (by rw [← hden]; exact cellsx_den (v := .one (.agg l)) rfl)

end Go.Sx

/- The symbolic executor, part 6: each operation is sound, the rest. -/
namespace Go.Sx
open Go
set_option linter.unusedSimpArgs false
set_option linter.unusedVariables false
set_option maxRecDepth 100000

variable {U : Type} {S : Sig U} {n n' : Env U} {P : Program} {T : Tab} {w w' : World} {a : Act} {pa : Path} {tm : List SV} {H : SH} {nx id : Nat} {o o' : Nat → Nat} {h h' : Array Obj}

theorem partx_sound (hT : T.ok P) {t : TypeId} {l : List S1} {off : Nat} {v : S2} (h : partx T t l off = some v) (w : World) :
    (part t (cellsDen S n l).toArray off).run P w = .ok (v.den S n) w := by
  unfold partx at h
  split at h
  · rename_i i hi
    obtain ⟨f, d, hf, hd, e1, e2, _⟩ := hT.info hi
    split at h
    · rename_i hagg
      simp at h; subst h
      simp only [part, Sem.run_bind, run_isAgg' hd, Result.andThen_ok, ← e1, hagg, if_true, run_sizeOf' hf, Sem.run_pure, S2.den]
      congr 2
      simp [cellsDen, e2, List.map_take, List.map_drop, List.extract_eq_take_drop]
    · rename_i hagg
      simp only [Option.map_eq_some_iff] at h
      obtain ⟨c, hc, rfl⟩ := h
      simp only [part, Sem.run_bind, run_isAgg' hd, Result.andThen_ok, ← e1, hagg, if_false]
      simp [cellsDen, hc, S2.den]
  · simp at h

theorem fieldAddrx_sound (hT : T.ok P) (s : TypeId) (x : SV) (f : Nat) : OR.sv S n o P w tm nx (Instr.fieldAt s (x.den S n) f) (fieldAddrx T s x f) := by
  unfold fieldAddrx
  split
  · rename_i id q i sz fo fs hs
    obtain ⟨d, hd, he⟩ := hT.und hs
    split
    · rename_i off ft hft
      split
      · rename_i ti hi
        obtain ⟨f', d', hf', hd', e1, e2, _⟩ := hT.info hi
        split
        · trivial
        · rename_i hsz
          intro w'
          cases d <;> simp [slim] at he
          subst he
          rename_i fields
          simp only [List.getElem?_map, Array.getElem?_toList, Option.map_eq_some_iff, Prod.mk.injEq] at hft
          obtain ⟨fd, hfd, rfl, rfl⟩ := hft
          simp only [Instr.fieldAt, Sem.run_bind, run_underlying' hd, Result.andThen_ok, hfd, Instr.sureAddr, SV.den, S2.den, S1.den, fieldPlace, run_sizeOf' hf']
          rw [e2] at hsz
          simp [hsz, add_plain, E.den, Instr.sureAddr, Nat.add_assoc]
      · trivial
    · trivial
  · rename_i id q fs hs
    obtain ⟨d, hd, he⟩ := hT.und hs
    split
    · rename_i off ft hft
      split
      · rename_i i hi
        obtain ⟨f', d', hf', hd', e1, e2, _⟩ := hT.info hi
        split
        · trivial
        · rename_i hsz
          intro w'
          cases d <;> simp [slim] at he
          subst he
          rename_i fields
          simp only [List.getElem?_map, Array.getElem?_toList, Option.map_eq_some_iff, Prod.mk.injEq] at hft
          obtain ⟨fd, hfd, rfl, rfl⟩ := hft
          simp only [Instr.fieldAt, Sem.run_bind, run_underlying' hd, Result.andThen_ok, hfd, Instr.sureAddr, SV.den, S2.den, S1.den, fieldPlace, run_sizeOf' hf']
          rw [e2] at hsz
          simp [hsz, add_plain, E.den, Instr.sureAddr]
      · trivial
    · trivial
  · trivial

theorem fieldx_sound (hT : T.ok P) (t : TypeId) (x : SV) (f : Nat) : OR.sv S n o P w tm nx (Instr.field t (x.den S n) f) (fieldx T t x f) := by
  unfold fieldx
  split
  · rename_i l fs hs
    obtain ⟨d, hd, he⟩ := hT.und hs
    split
    · rename_i off ft hft
      split
      · rename_i v hv
        intro w'
        cases d <;> simp [slim] at he
        subst he
        rename_i fields
        simp only [List.getElem?_map, Array.getElem?_toList, Option.map_eq_some_iff, Prod.mk.injEq] at hft
        obtain ⟨fd, hfd, rfl, rfl⟩ := hft
        simp only [Instr.field, Sem.run_bind, run_underlying' hd, Result.andThen_ok, hfd, SV.den, S2.den, asAgg, Sem.run_pure, partx_sound hT hv]
      · trivial
    · trivial
  · trivial

theorem extractx_sound (x : SV) (i : Nat) : OR.sv S n o P w tm nx (Instr.extract (x.den S n) i) (extractx x i) := by
  unfold extractx
  split
  · rename_i l
    split
    · rename_i v hv
      intro w'
      simp [Instr.extract, SV.den, hv]
    · trivial
  · trivial

theorem builtinx_sound (b : Builtin) (ts : Array TypeId) (t : TypeId) (cs : Array Bool) (args : List SV) :
    OR.snd S n o P w tm nx (builtin b ts t cs (args.map (SV.den S n)).toArray) (builtinx b args) := by
  unfold builtinx
  split
  · split
    · rename_i hk; subst hk
      intro w'
      simp [builtin, Builtin.min_, Builtin.min2, SV.den, S2.den, S1.den, den_mk2, O2.ap]
    · trivial
  · split
    · rename_i hk; subst hk
      intro w'
      simp [builtin, Builtin.max_, Builtin.max2, SV.den, S2.den, S1.den, den_mk2, O2.ap]
    · trivial
  · trivial

theorem lenx_sound (hT : T.ok P) (ts : Array TypeId) (t : TypeId) (cs : Array Bool) (args : List SV) :
    OR.snd S n o P w tm nx (builtin .len ts t cs (args.map (SV.den S n)).toArray) (lenx T (ts[0]?) args) := by
  unfold lenx
  split
  · rename_i e h1
    obtain ⟨t', ht', h1⟩ := Option.bind_eq_some_iff.1 h1
    obtain ⟨d, hd, he⟩ := hT.und h1
    cases d <;> simp [slim] at he
    intro w'
    simp [builtin, Builtin.len_, ht', run_underlying' hd, SV.den, S2.den, S1.den, goInt, E.den]
  · rename_i e id off len cap h1
    obtain ⟨t', ht', h1⟩ := Option.bind_eq_some_iff.1 h1
    obtain ⟨d, hd, he⟩ := hT.und h1
    cases d <;> simp [slim] at he
    intro w'
    simp [builtin, Builtin.len_, ht', run_underlying' hd, SV.den, S2.den, S1.den, goInt, den_mk1, O1.ap]
  · rename_i e id cid len h1
    obtain ⟨t', ht', h1⟩ := Option.bind_eq_some_iff.1 h1
    obtain ⟨d, hd, he⟩ := hT.und h1
    cases d <;> simp [slim] at he
    intro w'
    simp [builtin, Builtin.len_, ht', run_underlying' hd, SV.den, S2.den, S1.den, goInt, den_mk1, O1.ap]
  · rename_i m e x h1
    obtain ⟨t', ht', h1⟩ := Option.bind_eq_some_iff.1 h1
    obtain ⟨d, hd, he⟩ := hT.und h1
    cases d <;> simp [slim] at he
    obtain ⟨rfl, rfl⟩ := he
    intro w'
    simp [builtin, Builtin.len_, ht', run_underlying' hd, SV.den, S2.den, S1.den, goInt, E.den]
  · trivial

theorem callFunc_sound (hT : T.ok P) {f : FuncId} {i : FI} (hi : T.fi f = some i) (args : Array Value) (w : World) : (callFunc f args).run P w = .ok (.enter f args) w := by
  obtain ⟨fn, hf, hname, hb, _⟩ := hT.fi f i hi
  simp [callFunc, hf, hname, hb]

/-! ### append -/
theorem rkList_length : ∀ {l : List S1} {ks : List RK}, rkList l = some ks → ks.length = l.length
  | [], ks, h => by simp [rkList] at h; subst h; rfl
  | x :: l, ks, h => by
    simp only [rkList] at h
    split at h
    · rename_i k r hk hr
      simp at h; subst h
      simp [rkList_length hr]
    · simp at h
theorem rkTy_sound (hT : T.ok P) {et : TypeId} {i : TI} {ks : List RK} (hi : T.ti et = some i) (h : rkTy i = some ks) :
    ∃ f z, P.info? et = some f ∧ f.zero = some z ∧ ks.length = f.size ∧ 0 < ks.length ∧ f.bytes ≤ 1048576 ∧ z.cells.size = f.size := by
  obtain ⟨f, d, hf, hd, e1, e2, e3, e4, _⟩ := hT.info hi
  unfold rkTy at h
  split at h
  · rename_i z hz
    rw [hz] at e4
    obtain ⟨zv, hzv, hz2⟩ := Option.bind_eq_some_iff.1 e4.symm
    split at h
    · rename_i ks' hks
      split at h
      · rename_i hc
        simp only [Option.some.injEq] at h
        subst h
        refine ⟨f, zv, hf, hzv, by rw [← e2]; exact hc.1, hc.2.1, by rw [← e3]; exact hc.2.2, ?_⟩
        obtain ⟨S0, n0, _⟩ : ∃ (S0 : Sig Unit) (n0 : Env Unit), True := ⟨⟨fun _ g => g, fun _ g _ => g, fun _ g _ _ => g, fun _ g _ _ _ => g, fun _ _ _ _ _ => True, fun _ _ _ _ _ _ _ _ _ => trivial⟩, ⟨fun _ => .int 0, fun _ => 0, fun _ => .bool true, fun _ => rfl⟩, trivial⟩
        have hden : z.den S0 n0 = zv := S2.ofValue_den hz2
        have hzc : zv.cells.size = (zcells z).length := by
          rw [← hden]
          cases z with
          | c x => rw [show (S2.den S0 n0 (.c x)).cells = _ from cellsx_den (S := S0) (n := n0) (v := .one (.c x)) rfl]; simp [cellsDen, zcells]
          | agg l => rw [show (S2.den S0 n0 (.agg l)).cells = _ from cellsx_den (S := S0) (n := n0) (v := .one (.agg l)) rfl]; simp [cellsDen, zcells]
        rw [hzc, ← rkList_length hks, hc.1, e2]
      · simp at h
    · simp at h
  · simp at h
theorem recVals_snoc (ks : List RK) (l : List Int) (x : Int) : recVals ks (l ++ [x]) = recVals ks l ++ [cellOf ks l.length x] := by
  simp [recVals, List.zipIdx_append]
theorem snocs_sound {ks : List RK} (hk : 0 < ks.length) : ∀ {l : List S1} {j : Nat} {g g' : E}, snocs ks j g l = some g' → (g.den S n.v).toInts.length % ks.length = j % ks.length →
    (g'.den S n.v).toInts.length = (g.den S n.v).toInts.length + l.length ∧ recVals ks (g'.den S n.v).toInts = recVals ks (g.den S n.v).toInts ++ cellsDen S n l
  | [], j, g, g', h, hm => by
    simp only [snocs, Option.some.injEq] at h
    subst h
    simp [cellsDen]
  | x :: l, j, g, g', h, hm => by
    simp only [snocs] at h
    split at h
    · rename_i e he
      have hx := cellE_sound (S := S) (n := n) he
      have hg1 : ((E.o2 .snoc g e).den S n.v).toInts = (g.den S n.v).toInts ++ [(e.den S n.v).toInt] := by simp only [E.den, O2.ap, G.toInts_ints]
      obtain ⟨h1, h2⟩ := snocs_sound hk h (by rw [hg1, List.length_append, List.length_singleton, Nat.add_mod, hm, ← Nat.add_mod])
      rw [hg1] at h1 h2
      rw [recVals_snoc] at h2
      have hc : cellOf ks (g.den S n.v).toInts.length (e.den S n.v).toInt = x.den S n := by unfold cellOf; rw [hm]; exact hx
      rw [hc] at h2
      refine ⟨by rw [h1]; simp; omega, ?_⟩
      rw [h2]
      simp [cellsDen]
    · simp at h
theorem srcx_sound (hs : Sat S n o w.heap H) {ks : List RK} (hk : 0 < ks.length) {g g' : E} (hg : (g.den S n.v).toInts.length % ks.length = 0) {x : S1} {m : Option E} (h : srcx H ks g x = some (g', m)) {tx e' : TypeId}
    (htx : P.underlying tx = some (.slice e')) :
    ∃ cnt news, Src P ks.length tx (x.den S n) cnt news w ∧ recVals ks (g'.den S n.v).toInts = recVals ks (g.den S n.v).toInts ++ news ∧ (g'.den S n.v).toInts.length = (g.den S n.v).toInts.length + cnt * ks.length ∧
      (m = none → 0 < cnt) ∧ ∀ e, m = some e → (e.den S n.v).toInt = cnt := by
  unfold srcx at h
  split at h
  · rename_i idx q c
    split at h
    · rename_i l hl
      obtain ⟨_, _, ty, hb⟩ := hs.get hl
      split at h
      · rename_i hc
        simp only [Option.map_eq_some_iff, Prod.mk.injEq] at h
        obtain ⟨g1, hg1, rfl, rfl⟩ := h
        obtain ⟨h1, h2⟩ := snocs_sound (S := S) (n := n) hk hg1 (by rw [hg, Nat.zero_mod])
        refine ⟨q.toNat, cellsDen S n l, ?_, h2, by rw [h1, hc.2], fun _ => by omega, fun e he => by cases he⟩
        refine Src.ofSlice w htx ⟨n.rho idx, 0, none⟩ q.toNat c.toNat (cellsDen S n l) (by simpa [cellsDen] using hc.2) (fun j u hj => ?_) (cellsDen_one l)
        rw [add_plain, Nat.zero_add, cells_of_heap hb]; exact hj
      · simp at h
    · simp at h
  · rename_i id2 cid2 len2
    split at h
    · rename_i cid' ks' g2 hl
      obtain ⟨_, _, h0, hm2, ty, rest, hb, hcap⟩ := hs.get hl
      split at h
      · rename_i hc
        obtain ⟨rfl, rfl⟩ := hc
        simp only [Option.some.injEq, Prod.mk.injEq] at h
        obtain ⟨rfl, rfl⟩ := h
        have hdm : (g2.den S n.v).toInts.length / ks'.length * ks'.length = (g2.den S n.v).toInts.length := Nat.div_mul_cancel (Nat.dvd_of_mod_eq_zero hm2)
        have hgi : ((E.o2 .cat g g2).den S n.v).toInts = (g.den S n.v).toInts ++ (g2.den S n.v).toInts := by simp only [E.den, O2.ap, G.toInts_ints]
        refine ⟨(g2.den S n.v).toInts.length / ks'.length, recVals ks' (g2.den S n.v).toInts, ?_, by rw [hgi, recVals_append _ _ hg], by rw [hgi, List.length_append, hdm], (fun e => by cases e), fun e he => ?_⟩
        · have e1 : (S1.vec id2 cid2 (.o1 (.lenR ks'.length) g2)).den S n = .slice (some ⟨n.rho id2, 0, none⟩) ((g2.den S n.v).toInts.length / ks'.length) (n.rho cid2) := by
            simp only [S1.den, E.den, O1.ap, G.toInt_int, Int.toNat_natCast]
          rw [e1]
          refine Src.ofSlice w htx ⟨n.rho id2, 0, none⟩ _ _ _ (by rw [recVals_length, hdm]) (fun j u hj => ?_) (fun u hu => ?_)
          · rw [add_plain, Nat.zero_add, cells_of_heap hb, List.getElem?_append_left (List.getElem?_eq_some_iff.1 hj).1]; exact hj
          · obtain ⟨j, hj⟩ := List.mem_iff_getElem?.1 hu
            rw [recVals_get?] at hj
            simp only [Option.map_eq_some_iff] at hj
            obtain ⟨y, _, rfl⟩ := hj
            unfold cellOf valK
            split <;> rfl
        · simp only [Option.some.injEq] at he
          subst he
          simp only [E.den, O1.ap, G.toInt_int]
      · simp at h
    · simp at h
  · simp at h
theorem growBy_le (m : Nat) : ∀ r c, Builtin.growBy m r c ≤ max c (2 * m + 192)
  | 0, c => by simp only [Builtin.growBy]; omega
  | r + 1, c => by
    simp only [Builtin.growBy]
    split
    · omega
    · have := growBy_le m r (c + (c + 768) / 4)
      omega
theorem nextcap_le {m c : Nat} (h : c < m) : Builtin.nextslicecap m c ≤ 2 * m + 512 := by
  unfold Builtin.nextslicecap
  split
  · omega
  · split
    · omega
    · have := growBy_le m 4 c
      omega
theorem lt_million {q : Nat} (h : (q : Int) < 1000) : q < 1000 := by omega
theorem fewx_snd (hp : PT S n.v pa) {ks : List RK} {g : E} {k : OR} {s : Sem Next} (h : (g.den S n.v).toInts.length / ks.length < 1000 → OR.snd S n o P w tm nx s k) : OR.snd S n o P w tm nx s (fewx pa ks g k) := by
  unfold fewx
  refine need_snd hp fun h1 => h ?_
  simp only [den_mk2, O1.ap, O2.ap, G.toBool_bool, E.den, G.toInt_int, decide_eq_true_eq] at h1
  exact lt_million (of_decide_eq_true h1)
theorem SH.ne_filter {H : SH} {m : Nat} (p : Nat × Blk → Bool) (h : H.ne m = true) : SH.ne m (H.filter p) = true := List.all_eq_true.2 fun x hx => List.all_eq_true.1 h x (List.mem_filter.1 hx).1
theorem Sat.filter (hs : Sat S n o h H) (p : Nat × Blk → Bool) : Sat S n o h (H.filter p) := fun x hx => hs x (List.mem_filter.1 hx).1
/-- a new row, whatever is behind its records -/
theorem grown_new (hs : Sat S n o w.heap H) {old : Option Nat} {ks : List RK} {g : E} (hk : 0 < ks.length) (hm : (g.den S n.v).toInts.length % ks.length = 0) {cap : Nat} {rest : List Value} {ty : TypeId} {w0 : World}
    (hcap : (g.den S n.v).toInts.length + rest.length = cap * ks.length) {s : Sem Next} (hw0 : w0 = w ∨ w0 = w.drew)
    (hrun : s.run P w = .ok (.value (.slice (some ⟨w.heap.size, 0, none⟩) ((g.den S n.v).toInts.length / ks.length) cap)) (w0.alloc (.cells (recVals ks (g.den S n.v).toInts ++ rest).toArray ty))) :
    OR.snd S n o P w tm nx s (grownx tm H nx old ks g) := by
  unfold grownx
  split
  · rename_i hc
    simp only [Bool.and_eq_true, decide_eq_true_eq, List.all_eq_true] at hc
    obtain ⟨⟨⟨h0, htm⟩, h1⟩, h2⟩ := hc
    have hheap : w0.heap = w.heap := by rcases hw0 with rfl | rfl <;> rfl
    have hs1 : Sat S (n.bind (nx + vecGap) cap) o w0.heap (H.filter fun p => !(some p.1 == old)) := by rw [hheap]; exact (hs.filter _).bind (SH.ne_filter _ h2)
    have hv : vecGap = 64 := rfl
    have hfr : Fr w o w0 o := by
      rcases hw0 with h | h <;> rw [h]
      · exact Fr.refl _ _
      · exact Fr.drew _ _
    refine ⟨(n.bind (nx + vecGap) cap).bind nx w0.heap.size, _, w0.alloc (.cells (recVals ks (g.den S n.v).toInts ++ rest).toArray ty), _, hrun, .inl ?_, hs1.newB (ob := .cells (recVals ks (g.den S n.v).toInts ++ rest).toArray ty (0, 0)) h0 (SH.ne_filter _ h1) ⟨?_, hk, hm, ty, rest, ?_, ?_⟩, hfr.trans (Fr.alloc _ nx), ?_, ?_, by omega⟩
    · have hne : ¬ nx + vecGap = nx := by omega
      simp only [SV.den, S2.den, S1.den, Env.bind, E.den, O1.ap, G.toInt_int, Int.toNat_natCast, if_true, hheap, if_neg hne]
    · simp only [Env.bind, if_true]
    · show ((w0.heap.push _)[if nx = nx then w0.heap.size else _]?) = _
      simp [Env.bind]
    · have hne : ¬ nx + vecGap = nx := by omega
      simp only [Env.bind, if_true, if_neg hne]
      exact hcap
    · refine ⟨rfl, rfl, fun i hi => ?_⟩
      have e1 : ¬ i = nx := by omega
      have e2 : ¬ i = nx + vecGap := by omega
      simp only [Env.bind, if_neg e1, if_neg e2]
    · rw [SVs.den_bind (List.all_eq_true.2 fun x hx => (htm x hx).1), SVs.den_bind (List.all_eq_true.2 fun x hx => (htm x hx).2)]
  · trivial
/-- there is room: the row itself -/
theorem grown_room (hs : Sat S n o w.heap H) {cid : Nat} {ks : List RK} {g0 g : E} (hid : H.get id = some (.vec cid ks g0)) (hk : 0 < ks.length) (hm : (g.den S n.v).toInts.length % ks.length = 0) {rest : List Value} {ty : TypeId}
    (hcap : (g.den S n.v).toInts.length + rest.length = n.rho cid * ks.length) {s : Sem Next} {old : Array Value} {ty0 : TypeId} (hb : w.heap[n.rho id]? = some (.cells old ty (0, 0)))
    (hrun : s.run P w = .ok (.value (.slice (some ⟨n.rho id, 0, none⟩) ((g.den S n.v).toInts.length / ks.length) (n.rho cid))) (w.setRow (n.rho id) (recVals ks (g.den S n.v).toInts ++ rest).toArray)) :
    OR.snd S n o P w tm nx s (grownx tm H nx (some id) ks g) := by
  unfold grownx
  split
  · rename_i hc
    simp only [Bool.and_eq_true, decide_eq_true_eq, List.all_eq_true] at hc
    obtain ⟨⟨⟨h0, htm⟩, h1⟩, h2⟩ := hc
    have hv : vecGap = 64 := rfl
    have hne : ¬ nx + vecGap = nx := by omega
    obtain ⟨hid0, ho, _⟩ := hs.get hid
    have hs1 : Sat S ((n.bind (nx + vecGap) (n.rho cid)).bind nx (n.rho id)) o w.heap (H.filter fun p => !(some p.1 == some id)) := ((hs.filter _).bind (SH.ne_filter _ h2)).bind (SH.ne_filter _ h1)
    refine ⟨(n.bind (nx + vecGap) (n.rho cid)).bind nx (n.rho id), fun b => if b = n.rho id then nx else o b, _, _, hrun, .inl ?_, ?_, ⟨rfl, rfl, rfl, by rw [setRow_size]; exact Nat.le_refl _, fun b hb' h0' => ?_⟩, ?_, ?_, by omega⟩
    · simp only [SV.den, S2.den, S1.den, Env.bind, E.den, O1.ap, G.toInt_int, Int.toNat_natCast, if_true, if_neg hne]
    · intro p hp
      unfold SH.new at hp
      have hold : ∀ p ∈ (H.filter fun p => !(some p.1 == some id)), 0 < p.1 ∧ p.2.holds S ((n.bind (nx + vecGap) (n.rho cid)).bind nx (n.rho id)) (fun b => if b = n.rho id then nx else o b) (w.setRow (n.rho id) (recVals ks (g.den S n.v).toInts ++ rest).toArray).heap p.1 := by
        intro p hp
        obtain ⟨q1, q2⟩ := hs1 p hp
        have hpi : p.1 ≠ id := by
          have := (List.mem_filter.1 hp).2
          simpa using this
        refine ⟨q1, Blk.keep rfl rfl ⟨fun _ _ => rfl, fun _ _ _ _ => rfl⟩ (fun i hi hoi => ?_) q2⟩
        have : i ≠ n.rho id := fun e => hpi (by rw [← hoi, e, ho])
        exact ⟨by simp only [if_neg this]; exact hoi, setRow_other w _ i _ this⟩
      rcases List.mem_append.1 hp with hp | hp
      · exact hold p (List.mem_filter.1 hp).1
      · rcases List.mem_cons.1 hp with rfl | hp
        · refine ⟨h0, ?_, hk, hm, ty, rest, ?_, ?_⟩
          · simp only [Env.bind, if_true]
          · show (w.setRow (n.rho id) _).heap[if nx = nx then n.rho id else _]? = _
            rw [if_pos rfl, setRow_heap w _ _ _ _ _ hb]
            rfl
          · simp only [Env.bind, if_true, if_neg hne]
            exact hcap
        · exact hold p (List.mem_filter.1 hp).1
    · have : b ≠ n.rho id := fun e => by rw [e, ho] at h0'; omega
      exact ⟨by simp only [if_neg this]; exact h0', setRow_other w _ b _ this⟩
    · refine ⟨rfl, rfl, fun i hi => ?_⟩
      have e1 : ¬ i = nx := by omega
      have e2 : ¬ i = nx + vecGap := by omega
      simp only [Env.bind, if_neg e1, if_neg e2]
    · rw [SVs.den_bind (List.all_eq_true.2 fun x hx => (htm x hx).1), SVs.den_bind (List.all_eq_true.2 fun x hx => (htm x hx).2)]
  · trivial
theorem zeroCells_size (z : Array Value) (m : Nat) : (Builtin.zeroCells z m).size = m * z.size := by simp [Builtin.zeroCells]
theorem grownCap_ge (w : World) (m c : Nat) (e : TypeId) : m ≤ grownCap w m c e := by
  unfold grownCap Question.cut
  simp
theorem run_append_none {t tx ty e : TypeId} {i : TypeInfo} (ht : P.underlying t = some (.slice e)) (hi : P.info? e = some i) (base : Option Addr) (x : Value) {news : List Value} (hs : Src P i.size tx x 0 news w) :
    (Builtin.append_ #[t, tx] ty #[.slice base 0 0, x]).run P w = .ok (.slice base 0 0) w := by
  have hn : news = [] := List.eq_nil_of_length_eq_zero (by rw [hs.newsLen, Nat.zero_mul])
  have hc := hs.cells
  rw [hn] at hc
  rcases hs.kind with ⟨e', hk⟩ | hk <;> cases base <;> simp [Builtin.append_, run_underlying' ht, run_underlying' hk, sizeOf, typeInfo, hi, hs.len, hc, storeCells]
theorem append0_sound (hp : PT S n.v pa) (hs : Sat S n o w.heap H) {t tx ty e e' : TypeId} {i : TypeInfo} {z : Value} (ht : P.underlying t = some (.slice e)) (htx : P.underlying tx = some (.slice e')) (hi : P.info? e = some i)
    (hz : i.zero = some z) (hzs : z.cells.size = i.size) {ks : List RK} (hks : ks.length = i.size) (hk : 0 < ks.length) (hby : i.bytes ≤ 1048576) {s x : S1} {base : Option Addr} (hsd : s.den S n = .slice base 0 0) {f : Sem Value → Sem Next}
    (hf : ∀ (w w' : World) q v, q.run P w = .ok v w' → (f q).run P w = .ok (.value v) w') :
    OR.snd S n o P w tm nx (f (Builtin.append_ #[t, tx] ty #[s.den S n, x.den S n])) (append0 pa tm H nx ks s x) := by
  have hg0 : ((emptyE.den S n.v).toInts : List Int) = [] := by simp [emptyE, E.den, O1.ap]
  have grow : ∀ {g' : E} {m : Option E}, srcx H ks emptyE x = some (g', m) → (∀ cnt : Nat, (∀ e, m = some e → (e.den S n.v).toInt = cnt) → (m = none → 0 < cnt) → 0 < cnt) →
      OR.snd S n o P w tm nx (f (Builtin.append_ #[t, tx] ty #[s.den S n, x.den S n])) (fewx pa ks g' (grownx tm H nx none ks g')) := by
    intro g' m hsrc hpos
    obtain ⟨cnt, news, h1, h2, h3, h4, h5⟩ := srcx_sound hs hk (by rw [hg0]; simp) hsrc htx
    rw [hg0] at h2 h3
    have hcnt := hpos cnt h5 h4
    simp only [List.length_nil, Nat.zero_add, recVals, List.zipIdx_nil, List.map_nil, List.nil_append] at h2 h3
    refine fewx_snd hp fun hfew => ?_
    have hdiv : (g'.den S n.v).toInts.length / ks.length = cnt := by rw [h3, Nat.mul_div_cancel _ hk]
    rw [hdiv] at hfew
    rw [hks] at h1
    have hold : (Builtin.firstCells i.size 0 (.slice base 0 0)).run P w.drew = .ok (#[] : Array Value) w.drew := by
      cases base with
      | none => rfl
      | some a => simp [Builtin.firstCells, loadCells, loadCellsFrom]
    have hle := nextcap_le (m := 0 + cnt) (c := 0) (by omega)
    have hrun := run_append_grow_src w t tx ty e i z ht hi hz base 0 0 [] hold (x.den S n) cnt news h1 (by omega) (by omega) (by
      have : Builtin.nextslicecap (0 + cnt) 0 * i.bytes ≤ (2 * (0 + cnt) + 512) * 1048576 := Nat.mul_le_mul hle hby
      omega)
    have hge := grownCap_ge w (0 + cnt) 0 e
    have hzc := zeroCells_size z.cells (grownCap w (0 + cnt) 0 e - (0 + cnt))
    generalize grownCap w (0 + cnt) 0 e = cap at *
    have hnews : recVals ks (g'.den S n.v).toInts = news := h2
    refine grown_new (rest := (Builtin.zeroCells z.cells (cap - (0 + cnt))).toList) (ty := e) (cap := cap) (w0 := w.drew) hs hk (by rw [h3, Nat.mul_mod_left]) ?_ (.inr rfl) ?_
    · have hrl : (Builtin.zeroCells z.cells (cap - (0 + cnt))).toList.length = (cap - (0 + cnt)) * z.cells.size := by rw [Array.length_toList]; exact hzc
      rw [hrl, h3, hzs, ← hks, ← Nat.add_mul]
      congr 1; omega
    · refine hf _ _ _ _ ?_
      rw [hsd, hrun, hdiv, hnews]
      rw [Nat.zero_add, List.nil_append]
      have e9 : news.toArray ++ Builtin.zeroCells z.cells (cap - cnt) = (news ++ (Builtin.zeroCells z.cells (cap - cnt)).toList).toArray := by apply Array.ext'; simp
      rw [e9]
  unfold append0
  split
  · rename_i g' hsrc
    exact grow hsrc fun cnt _ h => h rfl
  · rename_i g' m hsrc
    split
    · rename_i hd
      have hv := dec_sound hp hd
      simp only [den_mk2, O2.ap, G.toBool_bool, E.den, G.toInt_int, beq_iff_eq] at hv
      obtain ⟨cnt, news, h1, h2, h3, h4, h5⟩ := srcx_sound hs hk (by rw [hg0]; simp) hsrc htx
      have hc0 : cnt = 0 := by have := h5 m rfl; omega
      subst hc0
      rw [hks] at h1
      show Sem.run P _ w = _
      refine hf _ _ _ _ ?_
      rw [hsd, run_append_none ht hi base _ h1]
      simp only [SV.den, S2.den, hsd]
    · rename_i hd
      have hv := dec_sound hp hd
      simp only [den_mk2, O2.ap, G.toBool_bool, E.den, G.toInt_int, beq_eq_false_iff_ne, ne_eq] at hv
      refine grow hsrc fun cnt h _ => ?_
      have := h m rfl
      omega
    · trivial
  · trivial

/-- there is room: the cells are laid behind -/
theorem run_append_row {t tx ty e et : TypeId} {i : TypeInfo} (ht : P.underlying t = some (.slice e)) (hi : P.info? e = some i) {b sLen sCap cnt : Nat} {x : Value} {news l : List Value} (hs : Src P i.size tx x cnt news w)
    (hroom : sLen + cnt ≤ sCap) (hb : w.heap[b]? = some (.cells l.toArray et (0, 0))) (hfit : sLen * i.size + news.length ≤ l.length) :
    (Builtin.append_ #[t, tx] ty #[.slice (some ⟨b, 0, none⟩) sLen sCap, x]).run P w =
      .ok (.slice (some ⟨b, 0, none⟩) (sLen + cnt) sCap) (w.setRow b (l.take (sLen * i.size) ++ news ++ l.drop (sLen * i.size + news.length)).toArray) := by
  have hst := run_storeCells_at P b (sLen * i.size) et news 0 l.toArray w hb (by simpa using hfit) hs.one
  simp only [Nat.add_zero] at hst
  rcases hs.kind with ⟨e', hk⟩ | hk <;> simp [Builtin.append_, run_underlying' ht, run_underlying' hk, sizeOf, typeInfo, hi, hs.len, hroom, hs.cells, add_plain, hst]

theorem appendx_sound (hT : T.ok P) (hp : PT S n.v pa) (hs : Sat S n o w.heap H) (ts : Array TypeId) (ty : TypeId) (args : List SV) {f : Sem Value → Sem Next}
    (hf : ∀ (w w' : World) q v, q.run P w = .ok v w' → (f q).run P w = .ok (.value v) w') :
    OR.snd S n o P w tm nx (f (Builtin.append_ ts ty (args.map (SV.den S n)).toArray)) (appendx T pa tm H nx ts.toList args) := by
  unfold appendx
  split
  case h_2 => trivial
  rename_i t tx s x hts
  have hts' : ts = #[t, tx] := by rw [← Array.toList_inj]; exact hts
  subst hts'
  split
  case h_2 => trivial
  rename_i et et' h1 h2
  obtain ⟨d, hd, he⟩ := hT.und h1
  cases d <;> simp [slim] at he
  subst he
  obtain ⟨d', hd', he'⟩ := hT.und h2
  cases d' <;> simp [slim] at he'
  subst he'
  split
  case h_2 => trivial
  rename_i ks hks
  obtain ⟨ti, hti, hks⟩ := Option.bind_eq_some_iff.1 hks
  obtain ⟨fi, z, hfi, hz, hksl, hk, hby, hzs⟩ := rkTy_sound hT hti hks
  have hargs : (List.map (SV.den S n) [.one (.c s), .one (.c x)]).toArray = #[s.den S n, x.den S n] := rfl
  rw [hargs]
  split
  · intro w'
    refine hf _ _ _ _ ?_
    have := run_append_none (w := w') (t := t) (tx := tx) (ty := ty) hd hfi none (.slice none 0 0) (Src.ofNil w' (size := fi.size) hd' 0)
    exact this
  · exact append0_sound hp hs hd hd' hfi hz hzs hksl hk hby (base := none) rfl hf
  · rename_i id
    exact append0_sound hp hs hd hd' hfi hz hzs hksl hk hby (base := some ⟨n.rho id, 0, none⟩) rfl hf
  · rename_i id cid len
    split
    case h_2 => trivial
    rename_i cid' ks' g hid
    split
    case isFalse => trivial
    rename_i hc
    obtain ⟨rfl, rfl, rfl, hne⟩ := hc
    split
    case h_2 => trivial
    rename_i g' m hsrc
    obtain ⟨hid0, ho, _, hm, rty, rest, hb, hcap⟩ := hs.get hid
    obtain ⟨cnt, news, q1, q2, q3, q4, q5⟩ := srcx_sound hs hk hm hsrc hd'
    have hdm : (g.den S n.v).toInts.length / ks'.length * ks'.length = (g.den S n.v).toInts.length := Nat.div_mul_cancel (Nat.dvd_of_mod_eq_zero hm)
    have hsd : (S1.vec id cid' (.o1 (.lenR ks'.length) g)).den S n = .slice (some ⟨n.rho id, 0, none⟩) ((g.den S n.v).toInts.length / ks'.length) (n.rho cid') := by
      simp only [S1.den, E.den, O1.ap, G.toInt_int, Int.toNat_natCast]
    have hdiv : (g'.den S n.v).toInts.length / ks'.length = (g.den S n.v).toInts.length / ks'.length + cnt := by rw [q3, Nat.add_mul_div_right _ _ hk]
    have hmod : (g'.den S n.v).toInts.length % ks'.length = 0 := by rw [q3, Nat.add_mul_mod_self_right]; exact hm
    refine fewx_snd hp fun hfew => ?_
    rw [hdiv] at hfew
    have hnl := q1.newsLen
    have q1' := q1
    rw [hksl] at q1'
    rw [hsd]
    generalize hsL : (g.den S n.v).toInts.length / ks'.length = sL at *
    by_cases hroom : sL + cnt ≤ n.rho cid'
    · have hle : (sL + cnt) * ks'.length ≤ n.rho cid' * ks'.length := Nat.mul_le_mul_right _ hroom
      rw [Nat.add_mul] at hle
      have hrl : news.length ≤ rest.length := by omega
      have hlen : (recVals ks' (g.den S n.v).toInts).length = sL * ks'.length := by rw [recVals_length, hdm]
      refine grown_room (rest := rest.drop news.length) (ty := rty) (ty0 := rty) hs hid hk hmod ?_ hb ?_
      · rw [List.length_drop, q3]; omega
      · refine hf _ _ _ _ ?_
        rw [run_append_row (w := w) hd hfi q1' hroom hb (by rw [← hksl, List.length_append, hlen]; omega), hdiv, q2, ← hksl, ← hlen, List.take_left', List.drop_append, List.drop_of_length_le (by omega), Nat.add_sub_cancel_left, List.nil_append]
        · rfl
    · have hold : (Builtin.firstCells fi.size sL (.slice (some ⟨n.rho id, 0, none⟩) sL (n.rho cid'))).run P w.drew = .ok (recVals ks' (g.den S n.v).toInts).toArray w.drew := by
        refine run_firstCells_some w.drew fi.size sL ⟨n.rho id, 0, none⟩ sL (n.rho cid') _ (by rw [recVals_length, ← hksl, hdm]) fun j v hj => ?_
        rw [add_plain, Nat.zero_add]
        have : w.drew.heap[n.rho id]? = some (.cells (recVals ks' (g.den S n.v).toInts ++ rest).toArray rty (0, 0)) := hb
        rw [cells_of_heap this, List.getElem?_append_left (List.getElem?_eq_some_iff.1 hj).1]
        exact hj
      have hle := nextcap_le (m := sL + cnt) (c := n.rho cid') (by omega)
      have hrun := run_append_grow_src w t tx ty et fi z hd hfi hz (some ⟨n.rho id, 0, none⟩) sL (n.rho cid') _ hold (x.den S n) cnt news q1' (by omega) (by omega) (by
        have : Builtin.nextslicecap (sL + cnt) (n.rho cid') * fi.bytes ≤ (2 * (sL + cnt) + 512) * 1048576 := Nat.mul_le_mul hle hby
        omega)
      have hge := grownCap_ge w (sL + cnt) (n.rho cid') et
      have hzc := zeroCells_size z.cells (grownCap w (sL + cnt) (n.rho cid') et - (sL + cnt))
      generalize grownCap w (sL + cnt) (n.rho cid') et = cap at *
      refine grown_new (rest := (Builtin.zeroCells z.cells (cap - (sL + cnt))).toList) (ty := et) (cap := cap) (w0 := w.drew) hs hk hmod ?_ (.inr rfl) ?_
      · have hrl : (Builtin.zeroCells z.cells (cap - (sL + cnt))).toList.length = (cap - (sL + cnt)) * z.cells.size := by rw [Array.length_toList]; exact hzc
        rw [hrl, q3, hzs, ← hksl, ← hdm, ← Nat.add_mul, ← Nat.add_mul]
        congr 1; omega
      · refine hf _ _ _ _ ?_
        rw [hrun, hdiv, q2]
        have e9 : ((recVals ks' (g.den S n.v).toInts) ++ news).toArray ++ Builtin.zeroCells z.cells (cap - (sL + cnt)) = (recVals ks' (g.den S n.v).toInts ++ news ++ (Builtin.zeroCells z.cells (cap - (sL + cnt))).toList).toArray := by apply Array.ext'; simp
        rw [e9]
  · trivial

theorem refx_den (y : Option Nat) : (refx y).den S n = match y with | some id => .pointer (some ⟨n.rho id, 0, none⟩) | none => .pointer none := by
  cases y <;> simp [refx, SV.den, S2.den, S1.den, E.den]
theorem callx_sound (hT : T.ok P) (hp : PT S n.v pa) (hm : Tm S n tm a) (hs : Sat S n o w.heap H) (c : Call) (t : TypeId) :
    OR.snd S n o P w tm nx (do let d ← resolve a.eval c t; invoke d.target d.args) (callx T pa tm H nx c) := by
  unfold callx
  split
  · trivial
  · rename_i args hargs
    have hargs' : c.args.map a.eval = (args.map (SV.den S n)).toArray := by
      have := evArgs_sound hm hargs
      rw [← this]
      apply Array.ext'
      simp
    split
    · rename_i x hc
      split
      · rename_i f hx
        have hxv := evx_sound hm hx
        split
        · rename_i i hi
          intro w'
          simp only [resolve, hargs', hc, hxv, SV.den, S2.den, S1.den, Deferred.ofValue, Sem.run_bind, Sem.run_pure, Result.andThen_ok, invoke]
          simpa using callFunc_sound hT hi _ w'
        · trivial
      · rename_i f b y hx
        have hxv := evx_sound hm hx
        split
        · rename_i i hi
          intro w'
          cases b <;> cases y <;> simp only [SV.den, S2.den, S1.den] at hxv <;>
            (simp only [resolve, hargs', hc, hxv, Deferred.ofValue, Sem.run_bind, Sem.run_pure, Result.andThen_ok, invoke, Bool.false_eq_true, if_true, if_false, List.map_cons, List.map_append, List.map_nil, refx_den]
             simpa using callFunc_sound hT hi _ w')
        · trivial
      · trivial
    · rename_i hc
      have h1 := fun cs => lenx_sound (n := n) (S := S) (o := o) (w := w) (tm := tm) (nx := nx) hT c.argTypes t cs args
      obtain ⟨cs, e⟩ : ∃ cs, ∀ w, Sem.run P (do let d ← resolve a.eval c t; invoke d.target d.args) w = Sem.run P (builtin .len c.argTypes t cs (args.map (SV.den S n)).toArray) w :=
        ⟨_, fun w => by simp only [resolve, hargs', hc, Sem.run_bind, Sem.run_pure, Result.andThen_ok, invoke]; rfl⟩
      have h1 := h1 cs
      generalize lenx T c.argTypes[0]? args = r at h1
      cases r with
      | val v => intro w'; rw [e]; exact h1 w'
      | ld v => show Sem.run P _ w = _; rw [e]; exact h1
      | eff v H' nx' =>
        obtain ⟨n', o', w', r, h1, h2⟩ := h1
        exact ⟨n', o', w', r, by rw [e]; exact h1, h2⟩
      | call f args => intro w'; rw [e]; exact h1 w'
      | _ => trivial
    · rename_i hc
      have h1 := appendx_sound (n := n) (S := S) (o := o) (w := w) (tm := tm) (nx := nx) hT hp hs c.argTypes t args (f := fun s => do pure (.value (← s))) (fun w w' q v hq => by simp [hq])
      have e : ∀ w, Sem.run P (do let d ← resolve a.eval c t; invoke d.target d.args) w = Sem.run P (do pure (Next.value (← Builtin.append_ c.argTypes t (args.map (SV.den S n)).toArray))) w :=
        fun w => by simp only [resolve, hargs', hc, Sem.run_bind, Sem.run_pure, Result.andThen_ok, invoke, builtin]
      generalize appendx T pa tm H nx c.argTypes.toList args = r at h1
      cases r with
      | val v => intro w'; rw [e]; exact h1 w'
      | ld v => show Sem.run P _ w = _; rw [e]; exact h1
      | eff v H' nx' =>
        obtain ⟨n', o', w', r, h1, h2⟩ := h1
        exact ⟨n', o', w', r, by rw [e]; exact h1, h2⟩
      | call f args => intro w'; rw [e]; exact h1 w'
      | _ => trivial
    · rename_i b _ _ hc
      have h1 := fun cs => builtinx_sound (n := n) (S := S) (o := o) (w := w) (tm := tm) (nx := nx) (P := P) b c.argTypes t cs args
      obtain ⟨cs, e⟩ : ∃ cs, ∀ w, Sem.run P (do let d ← resolve a.eval c t; invoke d.target d.args) w = Sem.run P (builtin b c.argTypes t cs (args.map (SV.den S n)).toArray) w :=
        ⟨_, fun w => by simp only [resolve, hargs', hc, Sem.run_bind, Sem.run_pure, Result.andThen_ok, invoke]; rfl⟩
      have h1 := h1 cs
      generalize builtinx b args = r at h1
      cases r with
      | val v => intro w'; rw [e]; exact h1 w'
      | ld v => show Sem.run P _ w = _; rw [e]; exact h1
      | eff v H' nx' =>
        obtain ⟨n', o', w', r, h1, h2⟩ := h1
        exact ⟨n', o', w', r, by rw [e]; exact h1, h2⟩
      | call f args => intro w'; rw [e]; exact h1 w'
      | _ => trivial
    · rename_i recv name hc
      split
      · rename_i t' id off hr
        have hrv := evx_sound hm hr
        split
        · rename_i i hi
          obtain ⟨f', d, hf', hd, e1, e2, e3, e4, e5⟩ := hT.info hi
          split
          · rename_i e _ f htd hfind
            split
            · rename_i fi hfi
              intro w'
              rw [e5, List.find?_map] at hfind
              simp only [Option.map_eq_some_iff] at hfind
              obtain ⟨m, hm1, hm2⟩ := hfind
              simp only [mthOf, Prod.mk.injEq] at hm2
              obtain ⟨hn, hm2⟩ := hm2
              split at hm2
              · rename_i hpath
                have hmm : f'.methods.find? (fun m => m.name == name) = some m := by
                  rw [← Array.find?_toList]; exact hm1
                have hund : d = .pointer (match d with | .pointer e => e | _ => 0) := by
                  rw [e1] at htd; cases d <;> simp [slim] at htd ⊢
                have hpe : m.path.toList = [] := by simpa using hpath
                obtain ⟨k, hk⟩ : ∃ k, P.types.size + Made.depth = k + 1 := ⟨P.types.size + Made.depth - 1, by simp [Made.depth]⟩
                have hmeth : ∀ v : Value, (method (P.types.size + Made.depth) t' v name).run P w' = .ok (f, v) w' := by
                  intro v
                  rw [hk]
                  simp only [method, Sem.run_bind, run_typeInfo' hf', Result.andThen_ok, hmm, hpe, follow, Sem.run_pure, hm2]
                  rw [hund] at hd
                  simp only [receiverAt, Sem.run_bind, run_underlying' hd, Result.andThen_ok, Place.get, Sem.run_pure]
                simp only [resolve, hargs', hc, Sem.run_bind, Sem.run_pure, Result.andThen_ok, invoke, hrv, SV.den, S2.den, S1.den]
                simp only [callMethod, Sem.run_bind, run_program, Result.andThen_ok, hmeth]
                simp [hmeth, callMethod, callFunc_sound hT hfi]
                simp only [SV.den, S2.den, S1.den, true_and]
                try exact List.take_of_length_le (by simp)
              · simp at hm2
            · trivial
          · trivial
        · trivial
      · rename_i t' hr
        have hrv := evx_sound hm hr
        split
        · rename_i i hi
          obtain ⟨f', d, hf', hd, e1, e2, e3, e4, e5⟩ := hT.info hi
          split
          · rename_i e _ f htd hfind
            split
            · rename_i fi hfi
              intro w'
              rw [e5, List.find?_map] at hfind
              simp only [Option.map_eq_some_iff] at hfind
              obtain ⟨m, hm1, hm2⟩ := hfind
              simp only [mthOf, Prod.mk.injEq] at hm2
              obtain ⟨hn, hm2⟩ := hm2
              split at hm2
              · rename_i hpath
                have hmm : f'.methods.find? (fun m => m.name == name) = some m := by
                  rw [← Array.find?_toList]; exact hm1
                have hund : d = .pointer (match d with | .pointer e => e | _ => 0) := by
                  rw [e1] at htd; cases d <;> simp [slim] at htd ⊢
                have hpe : m.path.toList = [] := by simpa using hpath
                obtain ⟨k, hk⟩ : ∃ k, P.types.size + Made.depth = k + 1 := ⟨P.types.size + Made.depth - 1, by simp [Made.depth]⟩
                have hmeth : ∀ v : Value, (method (P.types.size + Made.depth) t' v name).run P w' = .ok (f, v) w' := by
                  intro v
                  rw [hk]
                  simp only [method, Sem.run_bind, run_typeInfo' hf', Result.andThen_ok, hmm, hpe, follow, Sem.run_pure, hm2]
                  rw [hund] at hd
                  simp only [receiverAt, Sem.run_bind, run_underlying' hd, Result.andThen_ok, Place.get, Sem.run_pure]
                simp only [resolve, hargs', hc, Sem.run_bind, Sem.run_pure, Result.andThen_ok, invoke, hrv, SV.den, S2.den, S1.den]
                simp only [callMethod, Sem.run_bind, run_program, Result.andThen_ok, hmeth]
                simp [hmeth, callMethod, callFunc_sound hT hfi]
                simp only [SV.den, S2.den, S1.den, true_and]
                try exact List.take_of_length_le (by simp)
              · simp at hm2
            · trivial
          · trivial
        · trivial
      · trivial

end Go.Sx

/- The symbolic executor, part 7: build, index, make; all operations together. -/
namespace Go.Sx
open Go
set_option linter.unusedSimpArgs false
set_option linter.unusedVariables false

variable {U : Type} {S : Sig U} {n n' : Env U} {P : Program} {T : Tab} {w w' : World} {a : Act} {pa : Path} {tm : List SV} {H : SH} {nx id : Nat} {o o' : Nat → Nat} {h h' : Array Obj}

theorem fold_set (off : Nat) : ∀ (vs : List Value) (k : Nat) (L : List Value), off + k + vs.length ≤ L.length →
    (vs.zipIdx k).foldl (fun (cs : Array Value) (x : Value × Nat) => cs.setIfInBounds (off + x.2) x.1) L.toArray = (L.take (off + k) ++ vs ++ L.drop (off + k + vs.length)).toArray
  | [], k, L, _ => by simp
  | v :: rest, k, L, hl => by
    simp only [List.zipIdx_cons, List.foldl_cons]
    simp only [List.length_cons] at hl
    have h1 : (L.toArray).setIfInBounds (off + k) v = (L.set (off + k) v).toArray := by simp
    rw [h1, fold_set off rest (k + 1) (L.set (off + k) v) (by simp; omega)]
    have := list_seg_step L (off + k) v rest (by omega)
    rw [show off + (k + 1) = off + k + 1 by omega, show off + k + 1 + rest.length = off + k + 1 + rest.length from rfl, this]
    simp only [List.length_cons]

theorem fillx_sound (places : List (Nat × Nat)) (place : Nat → Option (Nat × Nat)) (hpl : ∀ i x, places[i]? = some x → place i = some x) :
    ∀ (parts : List (Nat × SV)) (cells l : List S1), fillx places cells parts = some l →
      Instr.fill place (cellsDen S n cells).toArray (parts.map fun p => (p.1, p.2.den S n)) = some (cellsDen S n l).toArray
  | [], cells, l, h => by simp [fillx] at h; subst h; rfl
  | (i, v) :: rest, cells, l, h => by
    simp only [fillx] at h
    split at h
    · rename_i off size vs hp hv
      split at h
      · rename_i hc
        obtain ⟨hc1, hc2⟩ := hc
        have ih := fillx_sound places place hpl rest _ _ h
        simp only [List.map_cons, Instr.fill, hpl _ _ hp]
        have hcells := cellsx_den (S := S) (n := n) hv
        rw [if_neg (by simp [hcells, cellsDen]; omega)]
        have hf := fold_set off (cellsDen S n vs) 0 (cellsDen S n cells) (by simp [cellsDen]; omega)
        have e : Array.foldl (fun cs x => cs.setIfInBounds (off + x.2) x.1) (cellsDen S n cells).toArray (v.den S n).cells.zipIdx = (cellsDen S n (List.take off cells ++ vs ++ List.drop (off + vs.length) cells)).toArray := by
          rw [hcells]
          have : (cellsDen S n vs).toArray.zipIdx = ((cellsDen S n vs).zipIdx).toArray := by simp
          rw [this, List.foldl_toArray' (h := by simp), hf]
          simp [cellsDen]
        rw [← ih, ← e]
      · simp at h
    · simp at h

theorem evParts_sound (hm : Tm S n tm a) : ∀ {l : List (Nat × Operand)} {vs : List (Nat × SV)}, evParts tm l = some vs → l.map (fun p => (p.1, a.eval p.2)) = vs.map (fun p => (p.1, p.2.den S n))
  | [], vs, h => by simp [evParts] at h; subst h; rfl
  | (i, x) :: r, vs, h => by
    simp only [evParts] at h
    split at h
    · rename_i v l hv hl
      simp at h; subst h
      simp only [List.map_cons, evx_sound hm hv, evParts_sound hm hl]
    · simp at h

theorem sizesx_run (hT : T.ok P) : ∀ (fields : List Field) (pl : List (Nat × Nat)), sizesx T (fields.map fun f => (f.offset, f.type)) = some pl →
    ∀ w, (fields.mapM (m := Sem) fun f => do pure (f.offset, ← sizeOf f.type)).run P w = .ok pl w
  | [], pl, h, w => by simp [sizesx] at h; subst h; rfl
  | f :: r, pl, h, w => by
    simp only [List.map_cons, sizesx] at h
    split at h
    · rename_i i l hi hl
      simp at h; subst h
      obtain ⟨f', d, hf', hd, e1, e2, _⟩ := hT.info hi
      simp only [List.mapM_cons, Sem.run_bind, run_sizeOf' hf', Result.andThen_ok, Sem.run_pure, sizesx_run hT r l hl, e2]
    · simp at h

theorem buildx_sound (hT : T.ok P) (t : TypeId) (parts : List (Nat × SV)) :
    OR.sv S n o P w tm nx (Instr.build t (parts.map fun p => (p.1, p.2.den S n)).toArray) (buildx T t parts) := by
  unfold buildx
  split
  · rename_i i hi
    obtain ⟨f, d, hf, hd, e1, e2, e3, e4, e5⟩ := hT.info hi
    split
    · rename_i fs z htd hz
      rw [hz] at e4
      obtain ⟨zv, hzv, hz2⟩ := Option.bind_eq_some_iff.1 e4.symm
      have hden : S2.den S n (.agg z) = zv := S2.ofValue_den hz2
      split
      · rename_i pl hpl
        split
        · rename_i l hl
          intro w'
          rw [htd] at e1
          cases d <;> simp [slim] at e1
          rename_i fields
          subst e1
          have hm : (fields.mapM (m := Sem) fun f => do pure (f.offset, ← sizeOf f.type)).run P w' = .ok pl.toArray w' := by
            rw [Array.mapM_eq_mapM_toList]
            simp only [Sem.run_map, sizesx_run hT _ _ hpl, Result.andThen_ok]
          have hfill := fillx_sound (S := S) (n := n) pl (fun i => (pl.toArray)[i]?) (fun i x h => by simpa using h) parts z l hl
          simp only [Instr.build, Sem.run_bind, run_zeroValue' hf hzv, Result.andThen_ok, run_underlying' hd, hm, ← hden, S2.den, Value.cells]
          simp only [hfill]
          rfl
        · trivial
      · trivial
    · rename_i m e z htd hz
      rw [hz] at e4
      obtain ⟨zv, hzv, hz2⟩ := Option.bind_eq_some_iff.1 e4.symm
      have hden : S2.den S n (.agg z) = zv := S2.ofValue_den hz2
      split
      · rename_i ie hie
        obtain ⟨f', d', hf', hd', e1', e2', _⟩ := hT.info hie
        split
        · rename_i l hl
          intro w'
          rw [htd] at e1
          cases d <;> simp [slim] at e1
          obtain ⟨rfl, rfl⟩ := e1
          have hfill := fillx_sound (S := S) (n := n) _ (fun i => some (i * f'.size, f'.size)) (fun i x h => by
            simp only [List.getElem?_map, Option.map_eq_some_iff] at h
            obtain ⟨j, hj, rfl⟩ := h
            have := List.getElem?_range (n := m) (i := i)
            have hj' : j = i := by
              rw [List.getElem?_eq_some_iff] at hj
              obtain ⟨h1, h2⟩ := hj
              simpa using h2.symm
            subst hj'
            rw [e2']) parts z l hl
          simp only [Instr.build, Sem.run_bind, run_zeroValue' hf hzv, Result.andThen_ok, run_underlying' hd, run_sizeOf' hf', ← hden, S2.den, Value.cells]
          simp only [hfill]
          rfl
        · trivial
      · trivial
    · trivial
  · trivial

theorem whichx_sv (hp : PT S n.v pa) {e : E} {k : Nat → OR} {s : Sem Value} (h : ∀ j : Nat, (e.den S n.v).toInt = (j : Int) → OR.sv S n o P w tm nx s (k j)) :
    ∀ (m i : Nat), OR.sv S n o P w tm nx s (whichx pa e k m i)
  | 0, i => trivial
  | m + 1, i => by
    unfold whichx
    split
    · rename_i hd
      have := dec_sound hp hd
      simp only [den_mk2, O2.ap, G.toBool_bool, E.den, G.toInt_int, beq_iff_eq] at this
      exact h i this
    · exact whichx_sv hp h m (i + 1)
    · trivial

/-- As 'whichx_sv', the bound known. -/
theorem whichx_lt (hp : PT S n.v pa) {e : E} {k : Nat → OR} {s : Sem Value} : ∀ (m i b : Nat), i + m = b → (∀ j : Nat, j < b → (e.den S n.v).toInt = (j : Int) → OR.sv S n o P w tm nx s (k j)) → OR.sv S n o P w tm nx s (whichx pa e k m i)
  | 0, i, b, _, h => trivial
  | m + 1, i, b, hb, h => by
    unfold whichx
    split
    · rename_i hd
      have := dec_sound hp hd
      simp only [den_mk2, O2.ap, G.toBool_bool, E.den, G.toInt_int, beq_iff_eq] at this
      exact h i (by omega) this
    · exact whichx_lt hp m (i + 1) b (by omega) h
    · trivial

theorem indexArr_run {t et : TypeId} {m : Nat} (hd : P.underlying t = some (.array m et)) {f : TypeInfo} (hf : P.info? et = some f) (k : IntKind) (j : Int) (h0 : 0 ≤ j) (h1 : j < m) (b q : Nat) (w : World) :
    (Instr.indexAt t (.pointer (some ⟨b, q, none⟩)) (.int k j)).run P w = .ok (.pointer (some ⟨b, q + j.toNat * f.size, none⟩)) w := by
  simp only [Instr.indexAt, Sem.run_bind, asIntOf, Sem.run_pure, Result.andThen_ok, run_underlying' hd, Instr.sureAddr]
  rw [if_pos ⟨h0, h1⟩]
  simp only [Sem.run_bind, run_sizeOf' hf, Result.andThen_ok, Sem.run_pure, add_plain]

theorem indexSl_run {t et : TypeId} (hd : P.underlying t = some (.slice et)) {f : TypeInfo} (hf : P.info? et = some f) (k : IntKind) (j : Int) (len cap : Nat) (h0 : 0 ≤ j) (h1 : j < len) (b q : Nat) (w : World) :
    (Instr.indexAt t (.slice (some ⟨b, q, none⟩) len cap) (.int k j)).run P w = .ok (.pointer (some ⟨b, q + j.toNat * f.size, none⟩)) w := by
  simp only [Instr.indexAt, Sem.run_bind, asIntOf, Sem.run_pure, Result.andThen_ok, run_underlying' hd]
  rw [if_pos ⟨h0, h1⟩]
  simp only [Sem.run_bind, run_sizeOf' hf, Result.andThen_ok, Sem.run_pure, add_plain]

theorem indexAddrx_sound (hT : T.ok P) (hp : PT S n.v pa) (t : TypeId) (x ix : SV) : OR.sv S n o P w tm nx (Instr.indexAt t (x.den S n) (ix.den S n)) (indexAddrx T pa H t x ix) := by
  unfold indexAddrx
  split
  · rename_i k e m et id q htd
    obtain ⟨d, hd, he⟩ := hT.und htd
    cases d <;> simp [slim] at he
    obtain ⟨rfl, rfl⟩ := he
    split
    · rename_i i hi
      obtain ⟨f, d', hf, hd', e1, e2, _⟩ := hT.info hi
      split
      · rename_i j
        split
        · rename_i hj
          intro w'
          simp only [SV.den, S2.den, S1.den, E.den, G.toInt_int]
          rw [indexArr_run hd hf k j hj.1 hj.2]
          simp only [e2, Int.toNat_natCast]
        · trivial
      · split
        · refine whichx_lt hp m 0 m (by omega) fun j hj hje => ?_
          intro w'
          simp only [SV.den, S2.den, S1.den, E.den, G.toInt_int, hje]
          rw [indexArr_run hd hf k (j : Int) (by omega) (by omega)]
          simp only [e2, Int.toNat_natCast]
        · trivial
    · trivial
  · rename_i k e et id off len cap htd
    obtain ⟨d, hd, he⟩ := hT.und htd
    cases d <;> simp [slim] at he
    subst he
    split
    · rename_i i cs hi hH
      obtain ⟨f, d', hf, hd', e1, e2, _⟩ := hT.info hi
      split
      · rename_i q m
        split
        · rename_i j
          split
          · rename_i hj
            intro w'
            simp only [SV.den, S2.den, S1.den, E.den, G.toInt_int]
            rw [indexSl_run hd hf k j _ _ hj.1 (by omega)]
            simp only [e2, Int.toNat_natCast]
          · trivial
        · split
          · refine whichx_lt hp m.toNat 0 m.toNat (by omega) fun j hj hje => ?_
            intro w'
            simp only [SV.den, S2.den, S1.den, E.den, G.toInt_int, hje]
            rw [indexSl_run hd hf k (j : Int) _ _ (by omega) (by omega)]
            simp only [e2, Int.toNat_natCast]
          · trivial
      · trivial
    · rename_i i rk g hi hH
      obtain ⟨f, d', hf, hd', e1, e2, _⟩ := hT.info hi
      split
      · split
        · rename_i hsz
          refine need_sv hp fun h1 => need_sv hp fun h2 => ?_
          simp only [den_mk1, den_mk2, O1.ap, O2.ap, G.toBool_bool, E.den, G.toInt_int, Bool.not_eq_true', decide_eq_false_iff_not, decide_eq_true_eq] at h1 h2
          have h1 := of_decide_eq_false h1
          intro w'
          simp only [SV.den, S2.den, S1.den, E.den, G.toInt_int]
          rw [indexSl_run hd hf k _ _ _ (by omega) (by omega)]
          simp [← e2, hsz]
        · trivial
      · trivial
    · rename_i i q1 q2 q3 q4 hi hH
      obtain ⟨f, d', hf, hd', e1, e2, _⟩ := hT.info hi
      refine need_sv hp fun h1 => need_sv hp fun h2 => ?_
      simp only [den_mk1, den_mk2, O1.ap, O2.ap, G.toBool_bool, E.den, G.toInt_int, Bool.not_eq_true', decide_eq_false_iff_not, decide_eq_true_eq] at h1 h2
      have h1 := of_decide_eq_false h1
      intro w'
      simp only [SV.den, S2.den, S1.den, E.den, G.toInt_int]
      rw [indexSl_run hd hf k _ _ _ (by omega) (by omega)]
      simp only [e2, Nat.add_zero]
    · trivial
  · rename_i k e et id cid len htd
    obtain ⟨d, hd, he⟩ := hT.und htd
    cases d <;> simp [slim] at he
    subst he
    split
    · rename_i i hi
      obtain ⟨f, d', hf, hd', e1, e2, _⟩ := hT.info hi
      refine need_sv hp fun h1 => need_sv hp fun h2 => ?_
      simp only [den_mk1, den_mk2, O1.ap, O2.ap, G.toBool_bool, E.den, G.toInt_int, Bool.not_eq_true', decide_eq_false_iff_not, decide_eq_true_eq] at h1 h2
      have h1 := of_decide_eq_false h1
      intro w'
      simp only [SV.den, S2.den, S1.den, E.den, G.toInt_int]
      rw [indexSl_run hd hf k _ _ _ (by omega) (by omega)]
      simp only [e2, Nat.add_zero, Int.toNat_zero, Nat.zero_add]
    · trivial
  · trivial


def rkZero : RK → Value
  | .int k => .int k 0
  | .bool => .bool false
theorem rowVals_zeros (k : RK) (e : E) (v : Nat → G U) : rowVals k ((zerosE k e).den S v) = List.replicate (e.den S v).toInt.toNat (rkZero k) := by
  cases k <;> simp [rowVals, zerosE, E.den, O1.ap, rkZero]

theorem room_mul (b : Nat) : (roomMost b : Int) * b ≤ 281474976710656 := by
  have := Nat.div_mul_le_self 281474976710656 b
  have h : roomMost b * b ≤ 281474976710656 := this
  have h2 := Int.ofNat_le.2 h
  rw [Int.natCast_mul] at h2
  omega
theorem room_le (b : Nat) : (roomMost b : Int) ≤ 281474976710656 := by
  have h : roomMost b ≤ 281474976710656 := Nat.div_le_self 281474976710656 b
  omega

theorem rowx_sound (hp : PT S n.v pa) (hs : Sat S n o w.heap H) {t et : TypeId} {f : TypeInfo} {k : RK} {bytes : Nat} (hd : P.underlying t = some (.slice et)) (hf : P.info? et = some f)
    (hsz : f.size = 1) (hz : f.zero = some (rkZero k)) (hby : f.bytes = bytes) (hb0 : 0 < bytes) (len : E) :
    OR.sv S n o P w tm nx (Instr.makeSlice t ((SV.one (.c (.int .i64 len))).den S n) ((SV.one (.c (.int .i64 len))).den S n)) (rowx pa tm H nx k bytes len) := by
  unfold rowx
  refine need_sv hp fun h1 => need_sv hp fun h2 => ?_
  simp only [den_mk1, den_mk2, O1.ap, O2.ap, E.den, G.toBool_bool, G.toInt_int, Bool.not_eq_true'] at h1 h2
  have h1 := of_decide_eq_false h1
  have h2 := of_decide_eq_false h2
  have h2' : (len.den S n.v).toInt ≤ (roomMost bytes : Int) := by omega
  have hmul := room_mul bytes
  split
  · rename_i hc
    simp only [Bool.and_eq_true, decide_eq_true_eq] at hc
    obtain ⟨⟨h0', h3⟩, h4⟩ := hc
    refine ⟨n.bind nx w.heap.size, _, w.alloc (.cells (rowVals k ((zerosE k len).den S n.v)).toArray et), ?_, hs.newB h0' h4 ⟨?_, et, ?_⟩, Fr.alloc _ nx, Env.bind_ext _ _ _, SVs.den_bind h3, Nat.le_succ _⟩
    · generalize hm : (len.den S n.v).toInt = m at *
      have hmb : m * bytes ≤ 281474976710656 := Int.le_trans (Int.mul_le_mul_of_nonneg_right h2' (by omega)) hmul
      have hm48 : m ≤ 281474976710656 := by
        have := room_le bytes
        omega
      have hw : IntKind.i64.wrap m = m := IntWalk.i64_in _ (by omega)
      have hroom : ¬ ((f.bytes : Int) * m > 2 ^ 48) := by
        have : (f.bytes : Int) * m = m * bytes := by rw [hby]; exact Int.mul_comm _ _
        omega
      have hrow : rowVals k ((zerosE k len).den S n.v) = List.replicate m.toNat (rkZero k) := by rw [rowVals_zeros, hm]
      have hcells : (rkZero k).cells = #[rkZero k] := by cases k <;> rfl
      have hcsden : ((Array.range (m.toNat * f.size)).map fun j => ((rkZero k).cells)[j % (rkZero k).cells.size]!) = (List.replicate m.toNat (rkZero k)).toArray := by
        rw [hsz, hcells, Nat.mul_one]
        apply Array.ext'
        simp only [Array.toList_map, Array.toList_range]
        apply List.ext_getElem
        · simp
        · intro i h1 h2
          simp [Nat.mod_one]
      rw [hrow]
      simp only [Instr.makeSlice, Sem.run_bind, run_underlying' hd, Result.andThen_ok, SV.den, S2.den, S1.den, E.den, asInt, asIntOf, Sem.run_pure, run_typeInfo' hf, hm, hw]
      rw [if_neg (by simp; omega)]
      simp only [Sem.run_bind, run_askRoom, Result.andThen_ok, run_sizeOf' hf]
      by_cases hn0 : m.toNat * f.size = 0
      · rw [hn0] at hcsden
        rw [if_pos hn0, hn0, ← hcsden]
        have hr : Array.range 0 = #[] := by apply Array.ext'; simp
        rw [hr]
        simp [newRow, Env.bind, hr, hm]
      · rw [if_neg hn0]
        simp only [Sem.run_bind, run_zeroValue' hf hz, Result.andThen_ok, Sem.run_pure]
        rw [hcsden]
        simp [newRow, Env.bind, hm]
    · simp [Env.bind]
    · show ((w.heap.push _)[if nx = nx then w.heap.size else _]?) = _
      simp [Env.bind]
  · trivial

theorem rowKind_sound {i : TI} {k : RK} (h : rowKind i = some k) : i.size = 1 ∧ 0 < i.bytes ∧ ∃ z, i.zero = some z ∧ ∀ (S : Sig U) (n : Env U), z.den S n = rkZero k := by
  unfold rowKind at h
  split at h
  · rename_i k' hz
    split at h
    · rename_i hc
      simp at h; subst h
      exact ⟨hc.1, hc.2, _, hz, fun _ _ => rfl⟩
    · simp at h
  · rename_i hz
    split at h
    · rename_i hc
      simp at h; subst h
      exact ⟨hc.1, hc.2, _, hz, fun _ _ => rfl⟩
    · simp at h
  · simp at h

theorem makeSlicex_sound (hT : T.ok P) (hp : PT S n.v pa) (hs : Sat S n o w.heap H) (t : TypeId) (l c : SV) :
    OR.sv S n o P w tm nx (Instr.makeSlice t (l.den S n) (c.den S n)) (makeSlicex T pa tm H nx t l c) := by
  unfold makeSlicex
  split
  · rename_i et len cap htd
    obtain ⟨d, hd, he⟩ := hT.und htd
    cases d <;> simp [slim] at he
    subst he
    split
    · rename_i hlc; subst hlc
      split
      · rename_i i hi
        obtain ⟨f, d', hf, hd', e1, e2, e3, e4, _⟩ := hT.info hi
        split
        · rename_i k hk
          obtain ⟨q1, q2, z, q3, q4⟩ := rowKind_sound (U := U) hk
          rw [q3] at e4
          obtain ⟨zv, hzv, hz2⟩ := Option.bind_eq_some_iff.1 e4.symm
          have hden : z.den S n = zv := S2.ofValue_den hz2
          rw [q4] at hden
          subst hden
          exact rowx_sound hp hs hd hf (by rw [← e2]; exact q1) hzv e3.symm q2 len
        split
        · rename_i m z hz
          rw [hz] at e4
          obtain ⟨zv, hzv, hz2⟩ := Option.bind_eq_some_iff.1 e4.symm
          have hden : z.den S n = zv := S2.ofValue_den hz2
          split
          · rename_i hm
            obtain ⟨h0, hb, h64⟩ := hm
            split
            · rename_i hzl
              obtain ⟨hz1, hz3⟩ := hzl
              have hzc : zv.cells = (cellsDen S n (zcells z)).toArray := by
                rw [← hden]
                cases z with
                | c x => exact cellsx_den (v := .one (.c x)) rfl
                | agg l => exact cellsx_den (v := .one (.agg l)) rfl
              generalize zcells z = zl at *
              generalize hcs : (List.map (fun j => zl.getD (j % zl.length) S1.nilp) (List.range (m.toNat * i.size))) = cs
              have hcsden : ((Array.range (m.toNat * f.size)).map fun j => (zv.cells)[j % zv.cells.size]!) = (cellsDen S n cs).toArray := by
                rw [hzc, ← hcs, ← e2]
                apply Array.ext'
                simp only [Array.toList_map, Array.toList_range, cellsDen, List.map_map]
                apply List.map_congr_left
                intro j _
                have hlt : j % zl.length < zl.length := Nat.mod_lt _ (by omega)
                simp [hlt]
              by_cases hc : (decide (0 < nx) && tm.all (SV.ne nx) && H.ne nx && cs.all (S1.ne nx)) = true
              · have hnx : newx tm H nx cs = .eff (.one (.c (.ptr nx (.int 0)))) (H.new nx (.cells cs)) (nx + 1) := by unfold newx; rw [if_pos hc]
                rw [hnx]
                simp only [Bool.and_eq_true, decide_eq_true_eq] at hc
                obtain ⟨⟨⟨h0', h1⟩, h2⟩, h3⟩ := hc
                refine ⟨n.bind nx w.heap.size, _, w.alloc (.cells (cellsDen S n cs).toArray et), ?_, hs.new h0' h2 h3, Fr.alloc _ nx, Env.bind_ext _ _ _, SVs.den_bind h1, Nat.le_succ _⟩
                have hw : IntKind.i64.wrap m = m := IntWalk.i64_in _ (by omega)
                have hroom : ¬ ((f.bytes : Int) * m > 2 ^ 48) := by
                  rw [e3] at hb
                  have : (f.bytes : Int) * m = m * f.bytes := Int.mul_comm _ _
                  omega
                simp only [Instr.makeSlice, Sem.run_bind, run_underlying' hd, Result.andThen_ok, SV.den, S2.den, S1.den, E.den, G.toInt_int, asInt, asIntOf, Sem.run_pure, run_typeInfo' hf, hw]
                rw [if_neg (by simp; omega)]
                simp only [Sem.run_bind, run_askRoom, Result.andThen_ok, run_sizeOf' hf]
                by_cases hn0 : m.toNat * f.size = 0
                · rw [hn0] at hcsden
                  rw [if_pos hn0, hn0, ← hcsden]
                  have hr : Array.range 0 = #[] := by apply Array.ext'; simp
                  rw [hr]
                  simp [newRow, Env.bind, hr]
                · rw [if_neg hn0]
                  simp only [Sem.run_bind, run_zeroValue' hf hzv, Result.andThen_ok, Sem.run_pure]
                  rw [hcsden]
                  simp [newRow, Env.bind]
              · have hnx : newx tm H nx cs = .no := by unfold newx; rw [if_neg hc]
                rw [hnx]; trivial
            · trivial
          · trivial
        · trivial
      · trivial
    · trivial
  · trivial


theorem buildSlicex_sound (hT : T.ok P) (hs : Sat S n o w.heap H) (t : TypeId) (len : Nat) (parts : List (Nat × SV)) :
    OR.snd S n o P w tm nx (do pure (Next.value (← Instr.buildSlice t len (parts.map fun p => (p.1, p.2.den S n)).toArray))) (buildSlicex T tm H nx t len parts) := by
  unfold buildSlicex
  split
  case h_2 => trivial
  rename_i et htd
  obtain ⟨d, hd, he⟩ := hT.und htd
  cases d <;> simp [slim] at he
  subst he
  split
  case h_2 => trivial
  rename_i i hi
  obtain ⟨f, d', hf, hd', e1, e2, e3, e4, _⟩ := hT.info hi
  split
  · split
    case h_2 => trivial
    rename_i ks hks
    obtain ⟨_, _, _, _, _, hk, _⟩ := rkTy_sound hT hi hks
    have hg0 : ((emptyE.den S n.v).toInts : List Int) = [] := by simp [emptyE, E.den, O1.ap]
    have hr : Array.range 0 = #[] := by apply Array.ext'; simp
    have hrun : (Instr.buildSlice t 0 #[]).run P w = .ok (.slice (some ⟨w.heap.size, 0, none⟩) 0 0) (w.alloc (.cells #[] et)) := by
      simp [Instr.buildSlice, run_underlying' hd, run_sizeOf' hf, Instr.fill, newRow, hr]
    exact grown_new (old := none) (g := emptyE) (cap := 0) (rest := []) (ty := et) (w0 := w) hs hk (by rw [hg0]; simp) (by rw [hg0]; simp) (.inl rfl) (by
      simp [hrun, hg0, recVals])
  · rename_i len
    split
    case h_2 => trivial
    rename_i z hz
    rw [hz] at e4
    obtain ⟨zv, hzv, hz2⟩ := Option.bind_eq_some_iff.1 e4.symm
    have hden : z.den S n = zv := S2.ofValue_den hz2
    have hzc : zv.cells = (cellsDen S n (zcells z)).toArray := by
      rw [← hden]
      cases z with
      | c x => exact cellsx_den (v := .one (.c x)) rfl
      | agg l => exact cellsx_den (v := .one (.agg l)) rfl
    split
    case isFalse => trivial
    rename_i hc
    obtain ⟨hz1, hz3, h1000⟩ := hc
    split
    case h_2 => trivial
    rename_i l hl
    generalize zcells z = zl at *
    have hcs : ((Array.range ((len + 1) * f.size)).map fun j => (zv.cells)[j % zv.cells.size]!) = (cellsDen S n ((List.range ((len + 1) * i.size)).map fun j => zl.getD (j % zl.length) .nilp)).toArray := by
      rw [hzc, ← e2]
      apply Array.ext'
      simp only [Array.toList_map, Array.toList_range, cellsDen, List.map_map]
      apply List.map_congr_left
      intro j _
      have hlt : j % zl.length < zl.length := Nat.mod_lt _ (by omega)
      simp [hlt]
    have hfill := fillx_sound (S := S) (n := n) _ (fun i => some (i * f.size, f.size)) (fun i x h => by
      simp only [List.getElem?_map, Option.map_eq_some_iff] at h
      obtain ⟨j, hj, rfl⟩ := h
      have hj' : j = i := by
        rw [List.getElem?_eq_some_iff] at hj
        obtain ⟨h1, h2⟩ := hj
        simpa using h2.symm
      subst hj'
      rw [e2]) parts _ l hl
    by_cases hc : (decide (0 < nx) && tm.all (SV.ne nx) && H.ne nx && l.all (S1.ne nx)) = true
    · have hnx : newx tm H nx l = .eff (.one (.c (.ptr nx (.int 0)))) (H.new nx (.cells l)) (nx + 1) := by unfold newx; rw [if_pos hc]
      rw [hnx]
      simp only [Bool.and_eq_true, decide_eq_true_eq] at hc
      obtain ⟨⟨⟨h0', h1⟩, h2⟩, h3⟩ := hc
      refine ⟨n.bind nx w.heap.size, _, w.alloc (.cells (cellsDen S n l).toArray et), _, ?_, .inl rfl, hs.new h0' h2 h3, Fr.alloc _ nx, Env.bind_ext _ _ _, SVs.den_bind h1, Nat.le_succ _⟩
      have h24 : ¬ (len + 1) * f.size > 2 ^ 24 := by rw [← e2]; omega
      have hn0 : ¬ (len + 1) * f.size = 0 := by
        rw [← e2]
        have : 0 < (len + 1) * i.size := Nat.mul_pos (by omega) hz3
        omega
      simp only [Instr.buildSlice, Sem.run_bind, run_underlying' hd, Result.andThen_ok, run_sizeOf' hf]
      rw [if_neg h24, if_neg hn0]
      simp only [Sem.run_bind, run_zeroValue' hf hzv, Result.andThen_ok, Sem.run_pure, hcs]
      rw [← hcs] at hfill
      simp only [hcs] at hfill
      simp only [hfill]
      simp [newRow, SV.den, S2.den, S1.den, E.den, Env.bind]
    · have hnx : newx tm H nx l = .no := by unfold newx; rw [if_neg hc]
      rw [hnx]; trivial

theorem isZero_sound {x : Option Operand} (h : isZero x = true) : ∃ k, x.map a.eval = some (.int k 0) := by
  unfold isZero at h
  split at h
  · rename_i k; exact ⟨k, rfl⟩
  · simp at h
theorem slicex_sound (hT : T.ok P) (t : TypeId) (x : SV) (lo hi mx : Option Operand) : OR.sv S n o P w tm nx (Instr.sliceAt t (x.den S n) (lo.map a.eval) (hi.map a.eval) (mx.map a.eval)) (slicex T t x lo hi mx) := by
  have key : ∀ {et : TypeId} (base : Option Addr) (l c : Nat), P.underlying t = some (.slice et) → (∃ f, P.info? et = some f) → (lo.isNone && isZero hi && isZero mx) = true → ∀ w' : World,
      (Instr.sliceAt t (.slice base l c) (lo.map a.eval) (hi.map a.eval) (mx.map a.eval)).run P w' = .ok (.slice base 0 0) w' := by
    intro et base l c hd hf hc w'
    obtain ⟨f, hf⟩ := hf
    simp only [Bool.and_eq_true, Option.isNone_iff_eq_none] at hc
    obtain ⟨⟨rfl, h2⟩, h3⟩ := hc
    obtain ⟨k2, h2⟩ := isZero_sound (a := a) h2
    obtain ⟨k3, h3⟩ := isZero_sound (a := a) h3
    simp [Instr.sliceAt, Instr.slice, run_underlying' hd, h2, h3, Instr.sliceBounds, Instr.sliceBound, asIntOf, run_sizeOf' hf]
  unfold slicex
  split
  case h_2 => trivial
  rename_i et htd
  obtain ⟨d, hd, he⟩ := hT.und htd
  cases d <;> simp [slim] at he
  subst he
  split
  case isFalse => trivial
  rename_i hc
  simp only [Bool.and_eq_true, Option.isSome_iff_exists] at hc
  obtain ⟨⟨i, hti⟩, hc⟩ := hc
  obtain ⟨f, d', hf, _⟩ := hT.info hti
  have hc' : (lo.isNone && isZero hi && isZero mx) = true := by simp only [Bool.and_eq_true]; exact hc
  split
  · intro w'; exact key none 0 0 hd ⟨f, hf⟩ hc' w'
  · rename_i id cid len
    intro w'
    simp only [SV.den, S2.den, S1.den, E.den, G.toInt_int, Int.toNat_zero]
    exact key _ _ _ hd ⟨f, hf⟩ hc' w'
  · rename_i id len cap
    intro w'
    simp only [SV.den, S2.den, S1.den, E.den, G.toInt_int, Int.toNat_zero]
    exact key _ _ _ hd ⟨f, hf⟩ hc' w'
  · trivial

theorem refOf_den {v : SV} {y : Option Nat} (h : refOf v = some y) : v.den S n = match y with | some id => .pointer (some ⟨n.rho id, 0, none⟩) | none => .pointer none := by
  unfold refOf at h
  split at h
  · simp only [Option.some.injEq] at h; subst h; simp [SV.den, S2.den, S1.den, E.den]
  · simp only [Option.some.injEq] at h; subst h; rfl
  · simp at h
theorem makeFuncx_sound (hm : Tm S n tm a) (fn : Fn) (fs cs : Array Operand) : OR.sv S n o P w tm nx (Instr.makeFunc fn (fs.map a.eval) (cs.map a.eval)) (makeFuncx tm fn fs.toList cs.toList) := by
  have one : ∀ {l : Array Operand} {x : Operand}, l.toList = [x] → l.map a.eval = #[a.eval x] := fun {l x} h => by
    have : l = #[x] := by rw [← Array.toList_inj]; exact h
    subst this; simp
  have no : ∀ {l : Array Operand}, l.toList = [] → l.map a.eval = #[] := fun {l} h => by
    have : l = #[] := by rw [← Array.toList_inj]; exact h
    subst this; simp
  unfold makeFuncx
  split
  · rename_i f x h1 h2
    split
    · rename_i y hy
      obtain ⟨v, hv, hy⟩ := Option.bind_eq_some_iff.1 hy
      intro w'
      rw [no h1, one h2, evx_sound hm hv, refOf_den hy]
      cases y <;> simp [Instr.makeFunc, SV.den, S2.den, S1.den]
    · trivial
  · rename_i f x h1 h2
    split
    · rename_i y hy
      obtain ⟨v, hv, hy⟩ := Option.bind_eq_some_iff.1 hy
      intro w'
      rw [one h1, no h2, evx_sound hm hv, refOf_den hy]
      cases y <;> simp [Instr.makeFunc, SV.den, S2.den, S1.den]
    · trivial
  · trivial

/-- ONE OPERATION. -/
theorem opx_sound (hT : T.ok P) (hp : PT S n.v pa) (hm : Tm S n tm a) (hs : Sat S n o w.heap H) (op : Oper) :
    OR.snd S n o P w tm nx (execOp a.eval op) (opx T pa tm H nx op) := by
  unfold opx execOp
  cases op.op <;> simp only
  case move x =>
    refine o1x_snd fun v hv w' => ?_
    simp [evx_sound hm hv]
  case assign x =>
    refine o1x_snd fun v hv w' => ?_
    simp [evx_sound hm hv]
  case pick c x y =>
    split
    · rename_i e he
      have hc := evx_sound hm he
      split
      · rename_i hd
        refine o1x_snd fun v hv w' => ?_
        simp [hc, SV.den, S2.den, S1.den, asBool, dec_sound hp hd, evx_sound hm hv]
      · rename_i hd
        refine o1x_snd fun v hv w' => ?_
        simp [hc, SV.den, S2.den, S1.den, asBool, dec_sound hp hd, evx_sound hm hv]
      · trivial
    · trivial
  case alloc t => exact sv_snd (allocx_sound hT hs t)
  case box t x =>
    refine o1x_snd fun v hv => ?_
    split
    · rename_i l hl
      rw [evx_sound hm hv]
      exact sv_snd (newx_sound hs l t (cellsx_den hl))
    · trivial
  case build t ps =>
    split
    · rename_i l hl
      have h1 := evParts_sound hm hl
      have h2 := sv_snd (buildx_sound (n := n) (S := S) (o := o) (w := w) (tm := tm) (nx := nx) hT t l)
      have h3 : (ps.map fun (x : Nat × Operand) => (x.1, a.eval x.2)) = (l.map fun p => (p.1, p.2.den S n)).toArray := by
        rw [← h1]
        apply Array.ext'
        simp
      rw [← h3] at h2
      exact h2
    · trivial
  case load t x =>
    refine o1x_snd fun v hv => ?_
    rw [evx_sound hm hv]
    exact sv_snd (loadx_sound hT hp hs t v)
  case store t x y =>
    refine o1x_snd fun v hv => o1x_snd fun u hu => ?_
    rw [evx_sound hm hv, evx_sound hm hu]
    exact storex_sound hT hp hs t v u
  case nilCheck x =>
    refine o1x_snd fun v hv => ?_
    rw [evx_sound hm hv]
    cases v with
    | tup l => trivial
    | one x =>
      cases x with
      | agg l => trivial
      | c y =>
        cases y
        case clo f b z => cases b <;> cases z <;> (intro w'; simp [SV.den, S2.den, S1.den])
        all_goals first | trivial | (intro w'; simp [SV.den, S2.den, S1.den])
  case binOp b xt x y yt =>
    refine o1x_snd fun v hv => o1x_snd fun u hu => ?_
    rw [evx_sound hm hv, evx_sound hm hu]
    exact sv_snd (pure_sv (binx_sound hT hp b xt x y v u))
  case unOp b xt x =>
    refine o1x_snd fun v hv => ?_
    rw [evx_sound hm hv]
    exact sv_snd (pure_sv (unx_sound b v))
  case convert s d x =>
    refine o1x_snd fun v hv => ?_
    rw [evx_sound hm hv]
    split
    · rename_i k e td k' h0 h1
      obtain ⟨d0, hd0, _⟩ := hT.und h0
      obtain ⟨d', hd, he⟩ := hT.und h1
      cases d' <;> simp [slim] at he
      subst he
      intro w'
      simp [convert, run_underlying' hd0, run_underlying' hd, SV.den, S2.den, S1.den, Conv.intToInt, den_mk1, O1.ap]
    · trivial
  case makeInterface t x =>
    refine o1x_snd fun v hv => ?_
    rw [evx_sound hm hv]
    split
    · rename_i id off e h1
      obtain ⟨d', hd, he⟩ := hT.und h1
      cases d' <;> simp [slim] at he
      intro w'
      simp [Instr.makeInterface, run_underlying' hd, SV.den, S2.den, S1.den]
    · rename_i e h1
      obtain ⟨d', hd, he⟩ := hT.und h1
      cases d' <;> simp [slim] at he
      intro w'
      simp [Instr.makeInterface, run_underlying' hd, SV.den, S2.den, S1.den]
    · trivial
  case makeSlice t x y =>
    refine o1x_snd fun v hv => o1x_snd fun u hu => ?_
    rw [evx_sound hm hv, evx_sound hm hu]
    exact sv_snd (makeSlicex_sound hT hp hs t v u)
  case fieldAddr s x f =>
    refine o1x_snd fun v hv => ?_
    rw [evx_sound hm hv]
    exact sv_snd (fieldAddrx_sound hT s v f)
  case field s x f =>
    refine o1x_snd fun v hv => ?_
    rw [evx_sound hm hv]
    exact sv_snd (fieldx_sound hT s v f)
  case indexAddr t x y =>
    refine o1x_snd fun v hv => o1x_snd fun u hu => ?_
    rw [evx_sound hm hv, evx_sound hm hu]
    exact sv_snd (indexAddrx_sound hT hp t v u)
  case extract x i =>
    refine o1x_snd fun v hv => ?_
    rw [evx_sound hm hv]
    exact sv_snd (extractx_sound v i)
  case call c => exact callx_sound hT hp hm hs c op.type
  case buildSlice t m ps =>
    split
    · rename_i l hl
      have h1 := evParts_sound hm hl
      have h2 := buildSlicex_sound (n := n) (S := S) (o := o) (w := w) (tm := tm) (nx := nx) hT hs t m l
      have h3 : (ps.map fun (x : Nat × Operand) => (x.1, a.eval x.2)) = (l.map fun p => (p.1, p.2.den S n)).toArray := by
        rw [← h1]
        apply Array.ext'
        simp
      rw [← h3] at h2
      exact h2
    · trivial
  case slice t x lo hi mx =>
    refine o1x_snd fun v hv => ?_
    rw [evx_sound hm hv]
    exact sv_snd (slicex_sound hT t v lo hi mx)
  case makeFunc fn fs cs => exact sv_snd (makeFuncx_sound hm fn fs cs)
  all_goals trivial

end Go.Sx

/- The symbolic executor, part 8: lists of operations, regions, code, calls. -/
namespace Go.Sx
open Go

structure St where
  tm : List SV
  H : SH
  nx : Nat
  pa : Path
  deriving DecidableEq

inductive Out | norm | exit (i : Nat) | ret | fail
  deriving DecidableEq, Repr

abbrev Leaf := Out × St

/-- What a call came to; not ok: it failed. -/
structure CO where
  ok : Bool
  ret : SV
  H : SH
  nx : Nat
  pa : Path
  deriving DecidableEq

abbrev CH := FuncId → List SV → SH → Nat → Path → Option (List CO)

def bindL : List Leaf → (St → Option (List Leaf)) → Option (List Leaf)
  | [], _ => some []
  | (.norm, st) :: r, k => match k st, bindL r k with
    | some a, some b => some (a ++ b)
    | _, _ => none
  | l :: r, k => (bindL r k).map (l :: ·)

def obind (x : Option (List Leaf)) (k : St → Option (List Leaf)) : Option (List Leaf) :=
  match x with
  | some l => bindL l k
  | none => none

def noskip : OR → OR
  | .skip => .no
  | r => r

/-- The guard, then the operation. -/
def opw (T : Tab) (ops : Array Oper) (pa : Path) (tm : List SV) (H : SH) (nx : Nat) (o : Oper) : OR :=
  match o.guard with
  | none => noskip (opx T pa tm H nx o)
  | some (j, want) =>
    match (ops[j]?).bind (·.dst) with
    | none => .skip
    | some d =>
      match tm[d]? with
      | none => .skip
      | some (.one (.c (.bool e))) =>
        match dec pa e with
        | some b => if b == want then noskip (opx T pa tm H nx o) else .skip
        | none => .fork (base e)
      | some (.one (.c (.opq _))) => .no
      | some x => match x.isAny with | true => .no | false => .skip

/-- What must be asked first is asked. -/
def forks : Nat → Path → (Path → OR) → Option (List (Path × OR))
  | 0, _, _ => none
  | k + 1, pa, f =>
    match f pa with
    | .fork e =>
      match forks k ((e, true) :: pa) f, forks k ((e, false) :: pa) f with
      | some a, some b => some (a ++ b)
      | _, _ => none
    | r => some [(pa, r)]

def putT (tm : List SV) (d : Option Tmp) (v : SV) : List SV :=
  match d with
  | some d => tm.set d v
  | none => tm

def coLeaf (st : St) (d : Option Tmp) (c : CO) : Leaf :=
  if c.ok then (.norm, ⟨putT st.tm d c.ret, c.H, c.nx, c.pa⟩) else (.fail, { st with pa := c.pa })

def leafOf (call : CH) (st : St) (d : Option Tmp) (pa : Path) (r : OR) : Option (List Leaf) :=
  match r with
  | .skip => some [(.norm, { st with tm := putT st.tm d SV.undef, pa })]
  | .val v | .ld v => some [(.norm, { st with tm := putT st.tm d v, pa })]
  | .eff v H nx => some [(.norm, ⟨putT st.tm d v, H, nx, pa⟩)]
  | .fail => some [(.fail, { st with pa })]
  | .call f args =>
    if st.tm.all (SV.lt st.nx) && st.H.lt st.nx then
      match call f args st.H st.nx pa with
      | some cs => some (cs.map (coLeaf st d))
      | none => none
    else none
  | _ => none

def leavesOf (call : CH) (st : St) (d : Option Tmp) : List (Path × OR) → Option (List Leaf)
  | [] => some []
  | (pa, r) :: l => match leafOf call st d pa r, leavesOf call st d l with
    | some a, some b => some (a ++ b)
    | _, _ => none

def doOp (T : Tab) (call : CH) (ops : Array Oper) (o : Oper) (st : St) : Option (List Leaf) :=
  match forks 20 st.pa (fun pa => opw T ops pa st.tm st.H st.nx o) with
  | some l => leavesOf call st o.dst l
  | none => none

def execOps (T : Tab) (call : CH) (ops : Array Oper) : List Oper → St → Option (List Leaf)
  | [], st => some [(.norm, st)]
  | o :: rest, st => obind (doOp T call ops o st) (execOps T call ops rest)

/-! ### a region that draws its order -/
abbrev Held := List (Nat × Nat × S1)

def heldOf (H0 H1 : SH) : Held :=
  H0.flatMap fun p =>
    match p.2, H1.get p.1 with
    | .cells l, some (.cells l') => (l.zipIdx.filterMap fun x => if l'[x.2]? = some x.1 then some (p.1, x.2, x.1) else none)
    | _, _ => []

def heldOK (hd : Held) (H : SH) : Bool :=
  hd.all fun x => match H.get x.1 with
    | some (.cells l) => decide (l[x.2.1]? = some x.2.2)
    | _ => false

def Held.get (hd : Held) (id i : Nat) : Option S1 := (hd.find? fun x => x.1 == id && x.2.1 == i).map (·.2.2)

def Held.gets (hd : Held) (id : Nat) : Nat → Nat → Option (List S1)
  | _, 0 => some []
  | i, m + 1 => match hd.get id i, hd.gets id (i + 1) m with
    | some x, some l => some (x :: l)
    | _, _ => none

/-- What an operation yields, whatever else the region has done. -/
def quietx (T : Tab) (ops : Array Oper) (hd : Held) (st : St) (o : Oper) : Option SV :=
  match opw T ops st.pa st.tm st.H st.nx o with
  | .skip => some SV.undef
  | .val v => some v
  | .ld _ =>
    match o.op with
    | .load t x =>
      match evx st.tm x, T.ti t with
      | some (.one (.c (.ptr id (.int q)))), some i =>
        if isAggT i.td then (hd.gets id q.toNat i.size).map fun l => .one (.agg l) else (hd.get id q.toNat).map fun c => .one (.c c)
      | _, _ => none
    | _ => none
  | _ => none

/-- Does it make just one block? Then the block's number is made of its place. -/
def makes : Op → Bool
  | .alloc _ | .box _ _ | .makeSlice _ _ _ | .buildSlice _ _ _ => true
  | .call c => match c.callee with | .builtin .append => true | _ => false
  | _ => false
/-- .. and binds a capacity besides? -/
def makes2 : Op → Bool
  | .buildSlice _ _ _ | .call _ => true
  | _ => false
/-- as many numbers as such a region may take -/
def gapOf (ops : Array Oper) : Nat := if ops.any (fun o => makes o.op && makes2 o.op) then ops.size + vecGap + 1 else ops.size

def firstQuiet (T : Tab) (ops : Array Oper) (hd : Held) (st : St) (listed : Array Bool) : List Nat → Option (Nat × SV)
  | [] => none
  | i :: r =>
    match ops[i]? with
    | none => none
    | some o =>
      match quietx T ops hd st o with
      | some v => if Region.free .any ops listed i then some (i, v) else firstQuiet T ops hd st listed r
      | none => firstQuiet T ops hd st listed r

/-- The number of a fresh block: made of the operation's place, where it makes one. -/
def inSt (b0 i : Nat) (o : Oper) (st : St) : St := if makes o.op then { st with nx := b0 + i } else st
def outSt (nx : Nat) (o : Oper) (l : Leaf) : Leaf := if makes o.op then (l.1, { l.2 with nx := nx }) else l

def drawOne (T : Tab) (call : CH) (ops : Array Oper) (hd : Held) (b0 : Nat) (st : St) (k : St → Option (List Leaf)) (i : Nat) : Option (List Leaf) :=
  match ops[i]? with
  | none => none
  | some o =>
    match doOp T call ops o (inSt b0 i o st) with
    | none => none
    | some ls => bindL (ls.map (outSt st.nx o)) fun s => if heldOK hd s.H then k s else none

def allSame (f : Nat → Option (List Leaf)) : List Nat → Option (List Leaf)
  | [] => none
  | i :: r => match f i with
    | some x => if r.all fun j => decide (f j = some x) then some x else none
    | none => none

def drawX (T : Tab) (call : CH) (ops : Array Oper) (hd : Held) (b0 : Nat) : Nat → Array Bool → St → Option (List Leaf)
  | 0, listed, st => if Region.ready .any ops listed = [] then some [(.norm, st)] else none
  | k + 1, listed, st =>
    if Region.ready .any ops listed = [] then some [(.norm, st)] else
    match firstQuiet T ops hd st listed (Region.ready .any ops listed) with
    | some (i, v) => drawX T call ops hd b0 k (listed.setIfInBounds i true) { st with tm := putT st.tm ((ops[i]?).bind (·.dst)) v }
    | none => allSame (fun i => drawOne T call ops hd b0 st (drawX T call ops hd b0 k (listed.setIfInBounds i true)) i) (Region.ready .any ops listed)

/-! the same, with what is listed as the bits of a number: so the kernel reckons it faster -/
def maskOf : List Nat → Nat
  | [] => 0
  | i :: r => Nat.lor (2 ^ i) (maskOf r)
def inM (a m : Nat) : Bool := Nat.beq (Nat.land a m) a
def depM (o : Oper) : Nat := maskOf ((o.after.toList.filter (Region.binds .any)).map (·.on))
def depsM (ops : Array Oper) : List (Nat × Nat) := (List.range ops.size).map fun i => (i, ((ops[i]?).map depM).getD 0)
def readyM (d : List (Nat × Nat)) (m : Nat) : List Nat := (d.filter fun p => !(m.testBit p.1) && inM p.2 m).map (·.1)
def apX (ops : Array Oper) (oi : Oper) (i j : Nat) : Bool :=
  match ops[j]? with
  | some oj => oj.after.any (fun e => Region.binds .any e && e.on == i) || oi.apart ops oj
  | none => true
def confM (ops : Array Oper) (i : Nat) : Nat :=
  match ops[i]? with
  | none => 0
  | some oi => maskOf ((List.range ops.size).filter fun j => !(j == i || apX ops oi i j))
def freeM (ops : Array Oper) (m i : Nat) : Bool := inM (confM ops i) m

def firstQuietM (T : Tab) (ops : Array Oper) (hd : Held) (st : St) (m : Nat) : List Nat → Option (Nat × SV)
  | [] => none
  | i :: r =>
    match ops[i]? with
    | none => none
    | some o =>
      match quietx T ops hd st o with
      | some v => if freeM ops m i then some (i, v) else firstQuietM T ops hd st m r
      | none => firstQuietM T ops hd st m r

def drawXM (T : Tab) (call : CH) (ops : Array Oper) (d : List (Nat × Nat)) (hd : Held) (b0 : Nat) : Nat → Nat → St → Option (List Leaf)
  | 0, m, st => match readyM d m with | [] => some [(.norm, st)] | _ :: _ => none
  | k + 1, m, st =>
    match readyM d m with
    | [] => some [(.norm, st)]
    | x :: y =>
      match firstQuietM T ops hd st m (x :: y) with
      | some (i, v) => drawXM T call ops d hd b0 k (Nat.lor m (2 ^ i)) { st with tm := putT st.tm ((ops[i]?).bind (·.dst)) v }
      | none => allSame (fun i => drawOne T call ops hd b0 st (drawXM T call ops d hd b0 k (Nat.lor m (2 ^ i))) i) (x :: y)

/-- What must be asked before any of these can go on. -/
def splitOn (T : Tab) (ops : Array Oper) (st : St) : List Nat → Option E
  | [] => none
  | i :: r => match ops[i]? with
    | none => none
    | some o => match opw T ops st.pa st.tm st.H st.nx o with
      | .fork e => some e
      | _ => splitOn T ops st r

/-- As above; what must be asked is asked ahead of the order. -/
def drawS (T : Tab) (call : CH) (ops : Array Oper) (d : List (Nat × Nat)) (hd : Held) (b0 : Nat) : Nat → Nat → Nat → St → Option (List Leaf)
  | 0, _, _, _ => none
  | p + 1, k, m, st =>
    match readyM d m with
    | [] => some [(.norm, st)]
    | x :: y =>
      match k with
      | 0 => none
      | k' + 1 =>
        match firstQuietM T ops hd st m (x :: y) with
        | some (i, v) => drawS T call ops d hd b0 p k' (Nat.lor m (2 ^ i)) { st with tm := putT st.tm ((ops[i]?).bind (·.dst)) v }
        | none =>
          match splitOn T ops st (x :: y) with
          | some e =>
            match drawS T call ops d hd b0 p (k' + 1) m { st with pa := (e, true) :: st.pa }, drawS T call ops d hd b0 p (k' + 1) m { st with pa := (e, false) :: st.pa } with
            | some a, some b => some (a ++ b)
            | _, _ => none
          | none => allSame (fun i => drawOne T call ops hd b0 st (drawS T call ops d hd b0 p k' (Nat.lor m (2 ^ i))) i) (x :: y)

def drawReg (T : Tab) (call : CH) (ops : Array Oper) (st : St) : Option (List Leaf) :=
  if Region.noSelect ops && st.H.lt st.nx then
    match (execOps T call ops ops.toList st).map fun (r : List Leaf) => r.filter fun (l : Leaf) => !(decide (l.1 = Out.fail)) with
    | some ((.norm, s1) :: r) =>
      let hd := (heldOf st.H s1.H).filter fun x => r.all fun l => heldOK [x] l.2.H
      if heldOK hd st.H && hd.all (fun x => decide (x.1 < st.nx) && x.2.2.lt st.nx) then
        drawS T call ops (depsM ops) hd st.nx (2 * ops.size + 1) ops.size 0 { st with nx := st.nx + gapOf ops }
      else none
    | _ => none
  else none

/-! it is the same -/
theorem maskOf_bit (l : List Nat) (j : Nat) : (maskOf l).testBit j = decide (j ∈ l) := by
  induction l with
  | nil => simp [maskOf]
  | cons i r ih =>
    show ((2 ^ i) ||| maskOf r).testBit j = _
    rw [Nat.testBit_or, ih, Nat.testBit_two_pow]
    by_cases h : i = j
    · subst h; simp
    · simp [h, Ne.symm h]
theorem inM_iff (a m : Nat) : inM a m = true ↔ ∀ j, a.testBit j = true → m.testBit j = true := by
  unfold inM
  rw [Nat.beq_eq]
  show a &&& m = a ↔ _
  constructor
  · intro h j hj
    rw [← h, Nat.testBit_and] at hj
    simp only [Bool.and_eq_true] at hj
    exact hj.2
  · intro h
    refine Nat.eq_of_testBit_eq fun j => ?_
    rw [Nat.testBit_and]
    cases hj : a.testBit j with
    | false => simp
    | true => simp [h j hj]

structure ListedM (ops : Array Oper) (listed : Array Bool) (m : Nat) : Prop where
  size : listed.size = ops.size
  bit : ∀ j, listed.getD j false = m.testBit j

theorem ListedM.t {ops : Array Oper} {listed : Array Bool} {m : Nat} (h : ListedM ops listed m) {j : Nat} (hj : j < ops.size) : listed.getD j true = m.testBit j := by
  rw [← h.bit j]
  have : j < listed.size := by rw [h.size]; exact hj
  simp [Array.getD, this]

theorem filter_congr' {α : Type} {l : List α} {p q : α → Bool} (h : ∀ x ∈ l, p x = q x) : l.filter p = l.filter q := List.filter_congr h

theorem readyM_eq {ops : Array Oper} {listed : Array Bool} {m : Nat} (h : ListedM ops listed m) : readyM (depsM ops) m = Region.ready .any ops listed := by
  unfold readyM depsM Region.ready
  rw [List.filter_map, List.map_map]
  have : ((fun x : Nat × Nat => x.1) ∘ fun i => (i, ((ops[i]?).map depM).getD 0)) = id := rfl
  rw [this, List.map_id]
  refine List.filter_congr fun i hi => ?_
  have hi' : i < ops.size := List.mem_range.1 hi
  simp only [Function.comp, h.t hi', Array.getElem?_eq_getElem hi', Option.map_some, Option.getD_some]
  congr 1
  rw [Bool.eq_iff_iff, inM_iff, Array.all_eq_true_iff_forall_mem]
  constructor
  · intro h1 e he
    cases hb : Region.binds .any e with
    | false => simp
    | true =>
      simp only [Bool.not_true, Bool.false_or, h.bit]
      refine h1 e.on ?_
      unfold depM
      rw [maskOf_bit]
      exact decide_eq_true (List.mem_map.2 ⟨e, List.mem_filter.2 ⟨by simpa using he, hb⟩, rfl⟩)
  · intro h1 j hj
    unfold depM at hj
    rw [maskOf_bit] at hj
    obtain ⟨e, he, rfl⟩ := List.mem_map.1 (of_decide_eq_true hj)
    obtain ⟨he, hb⟩ := List.mem_filter.1 he
    have := h1 e (by simpa using he)
    rw [hb] at this
    simpa [h.bit] using this

theorem freeM_eq {ops : Array Oper} {listed : Array Bool} {m : Nat} (h : ListedM ops listed m) {i : Nat} (hi : i < ops.size) : freeM ops m i = Region.free .any ops listed i := by
  have hF : Region.free .any ops listed i = (List.range ops.size).all fun j => j == i || listed.getD j true || apX ops ops[i] i j := by
    unfold Region.free
    simp only [Array.getElem?_eq_getElem hi]
    rfl
  rw [hF]
  unfold freeM confM
  simp only [Array.getElem?_eq_getElem hi]
  rw [Bool.eq_iff_iff, inM_iff, List.all_eq_true]
  generalize apX ops ops[i] i = X
  constructor
  · intro h1 j hj
    have hj' : j < ops.size := List.mem_range.1 hj
    rw [h.t hj']
    have h2 := h1 j
    rw [maskOf_bit] at h2
    cases hji : (j == i) with
    | true => rfl
    | false =>
      cases hX : X j with
      | true => rw [Bool.or_true]
      | false =>
        have := h2 (decide_eq_true (List.mem_filter.2 ⟨hj, by rw [hX, hji]; rfl⟩))
        rw [this]; rfl
  · intro h1 j hj
    rw [maskOf_bit] at hj
    obtain ⟨hj1, hj2⟩ := List.mem_filter.1 (of_decide_eq_true hj)
    have h2 := h1 j hj1
    rw [h.t (List.mem_range.1 hj1)] at h2
    cases hji : (j == i) <;> cases hX : X j <;> rw [hji, hX] at h2 hj2
    · simpa using h2
    · simp at hj2
    · simp at hj2
    · simp at hj2

theorem ListedM.put {ops : Array Oper} {listed : Array Bool} {m : Nat} (h : ListedM ops listed m) {i : Nat} (hi : i < ops.size) : ListedM ops (listed.setIfInBounds i true) (Nat.lor m (2 ^ i)) := by
  refine ⟨by simpa using h.size, fun j => ?_⟩
  show _ = (m ||| 2 ^ i).testBit j
  rw [Nat.testBit_or, Nat.testBit_two_pow, ← h.bit j]
  have hs : i < listed.size := by rw [h.size]; exact hi
  by_cases hij : i = j
  · subst hij
    simp [Array.getD, hs]
  · by_cases hj : j < listed.size
    · simp [Array.getD, hj, hij]
    · simp [Array.getD, hj, hij]

theorem ListedM.zero (ops : Array Oper) : ListedM ops (Array.replicate ops.size false) 0 := by
  refine ⟨by simp, fun j => ?_⟩
  by_cases hj : j < ops.size <;> simp [Array.getD, hj]

theorem ready_lt {ops : Array Oper} {listed : Array Bool} {i : Nat} (h : i ∈ Region.ready .any ops listed) : i < ops.size := by
  unfold Region.ready at h
  exact List.mem_range.1 (List.mem_filter.1 h).1

theorem firstQuietM_eq {T : Tab} {ops : Array Oper} {hd : Held} {st : St} {listed : Array Bool} {m : Nat} (h : ListedM ops listed m) :
    ∀ l : List Nat, (∀ i ∈ l, i < ops.size) → firstQuietM T ops hd st m l = firstQuiet T ops hd st listed l
  | [], _ => rfl
  | i :: r, hl => by
    simp only [firstQuietM, firstQuiet, freeM_eq h (hl i (List.mem_cons_self ..)), firstQuietM_eq h r fun x hx => hl x (List.mem_cons_of_mem _ hx)]

theorem firstQuiet_mem {T : Tab} {ops : Array Oper} {hd : Held} {st : St} {listed : Array Bool} {x : Nat × SV} : ∀ {l : List Nat}, firstQuiet T ops hd st listed l = some x → x.1 ∈ l
  | [], h => by simp [firstQuiet] at h
  | i :: r, h => by
    simp only [firstQuiet] at h
    split at h
    · simp at h
    · split at h
      · split at h
        · simp only [Option.some.injEq] at h; subst h; exact List.mem_cons_self ..
        · exact List.mem_cons_of_mem _ (firstQuiet_mem h)
      · exact List.mem_cons_of_mem _ (firstQuiet_mem h)

theorem allSame_congr {f g : Nat → Option (List Leaf)} : ∀ {l : List Nat}, (∀ i ∈ l, f i = g i) → allSame f l = allSame g l
  | [], _ => rfl
  | i :: r, h => by
    simp only [allSame, h i (List.mem_cons_self ..)]
    cases g i with
    | none => rfl
    | some x =>
      simp only
      have : (r.all fun j => decide (f j = some x)) = (r.all fun j => decide (g j = some x)) := by
        rw [Bool.eq_iff_iff, List.all_eq_true, List.all_eq_true]
        constructor <;> intro hh j hj
        · rw [← h j (List.mem_cons_of_mem _ hj)]; exact hh j hj
        · rw [h j (List.mem_cons_of_mem _ hj)]; exact hh j hj
      rw [this]

theorem drawXM_eq {T : Tab} {call : CH} {ops : Array Oper} {hd : Held} {b0 : Nat} : ∀ (k : Nat) (listed : Array Bool) (m : Nat) (st : St), ListedM ops listed m →
    drawXM T call ops (depsM ops) hd b0 k m st = drawX T call ops hd b0 k listed st
  | 0, listed, m, st, h => by
    simp only [drawXM, drawX, readyM_eq h]
    cases Region.ready .any ops listed <;> simp
  | k + 1, listed, m, st, h => by
    simp only [drawXM, drawX, readyM_eq h]
    have hlt : ∀ i ∈ Region.ready .any ops listed, i < ops.size := fun i hi => ready_lt hi
    generalize Region.ready .any ops listed = R at *
    cases R with
    | nil => simp
    | cons x y =>
      simp only [firstQuietM_eq h (x :: y) hlt, reduceCtorEq, if_false]
      split
      · rename_i i v hq
        exact drawXM_eq k _ _ _ (h.put (hlt i (firstQuiet_mem hq)))
      · refine allSame_congr fun i hi => ?_
        congr 1
        funext s
        exact drawXM_eq k _ _ s (h.put (hlt i hi))

def iter : Nat → (St → Option (List Leaf)) → St → Option (List Leaf)
  | 0, _, _ => none
  | k + 1, f, st => obind (f st) (iter k f)

def unblock (id : Nat) (l : Leaf) : Leaf := if l.1 = .exit id then (.norm, l.2) else l

def exec (T : Tab) (call : CH) (rounds : Nat) : Code → St → Option (List Leaf)
  | .skip, st | .label _, st => some [(.norm, st)]
  | .region _ ops draw, st => if draw then drawReg T call ops st else execOps T call ops ops.toList st
  | .seq a b, st => obind (exec T call rounds a st) (exec T call rounds b)
  | .cond c x y, st =>
    match evx st.tm c with
    | some (.one (.c (.bool e))) =>
      match dec st.pa e with
      | some true => exec T call rounds x st
      | some false => exec T call rounds y st
      | none =>
        match dec ((base e, true) :: st.pa) e, dec ((base e, false) :: st.pa) e with
        | some true, some false =>
          match exec T call rounds x { st with pa := (base e, true) :: st.pa }, exec T call rounds y { st with pa := (base e, false) :: st.pa } with
          | some a, some b => some (a ++ b)
          | _, _ => none
        | some false, some true =>
          match exec T call rounds y { st with pa := (base e, true) :: st.pa }, exec T call rounds x { st with pa := (base e, false) :: st.pa } with
          | some a, some b => some (a ++ b)
          | _, _ => none
        | _, _ => none
    | _ => none
  | .block id body, st => (exec T call rounds body st).map (List.map (unblock id))
  | .loop body, st => iter rounds (exec T call rounds body) st
  | .exit i, st => some [(.exit i, st)]
  | .ret, st => some [(.ret, st)]
  | _, _ => none

/-! ### calls -/
def s2Of : SV → Option S2
  | .one x => some x
  | .tup _ => none

def resx (T : Tab) (H : SH) (tm : List SV) : ResultVar → Option SV
  | .tmp t => evx tm (.tmp t)
  | .cell x t => match loadx T [] H t (tm.getD x SV.undef) with
    | .ld v => some v
    | _ => none

def ress (T : Tab) (H : SH) (tm : List SV) : List ResultVar → Option (List SV)
  | [] => some []
  | r :: l => match resx T H tm r, ress T H tm l with
    | some v, some vs => some (v :: vs)
    | _, _ => none

def s2s : List SV → Option (List S2)
  | [] => some []
  | v :: l => match s2Of v, s2s l with
    | some x, some r => some (x :: r)
    | _, _ => none

def retx (T : Tab) (H : SH) (tm : List SV) (rs : List ResultVar) : Option SV :=
  match ress T H tm rs with
  | some [v] => some v
  | some vs => (s2s vs).map .tup
  | none => none

/-- What is not reached from here is let go. -/
def S1.ids : S1 → List Nat
  | .ptr id _ | .slice id _ _ _ | .ifp _ id _ | .vec id _ _ | .chn id | .clo _ _ (some id) | .rp id _ _ _ _ => [id]
  | _ => []
def S2.ids : S2 → List Nat
  | .c x => x.ids
  | .agg l => l.flatMap S1.ids
def SV.ids : SV → List Nat
  | .one x => x.ids
  | .tup l => l.flatMap S2.ids
def Blk.ids : Blk → List Nat
  | .cells l => l.flatMap S1.ids
  | _ => []
def reach (H : SH) : Nat → List Nat → List Nat
  | 0, l => l
  | k + 1, l =>
    let new := (H.flatMap fun p => if l.contains p.1 then p.2.ids else []).filter fun i => !(l.contains i)
    if new.isEmpty then l else reach H k (l ++ new.eraseDups)
def gc (nx : Nat) (ret : SV) (H : SH) : SH :=
  let keep := reach H 8 (ret.ids ++ (H.filter fun p => decide (p.1 < nx)).map (·.1))
  H.filter fun p => decide (p.1 < nx) || keep.contains p.1

def outx (T : Tab) (nx : Nat) (rs : List ResultVar) : List Leaf → Option (List CO)
  | [] => some []
  | (.fail, st) :: l => (outx T nx rs l).map (⟨false, SV.undef, [], 0, st.pa⟩ :: ·)
  | (.exit _, _) :: _ => none
  | (_, st) :: l =>
    match retx T st.H st.tm rs, outx T nx rs l with
    | some v, some r => some (⟨true, v, gc nx v st.H, st.nx, st.pa⟩ :: r)
    | _, _ => none

/-- Calls: by what is known of the callee ('tmpl'), or by carrying out its text. -/
def callX (T : Tab) (tmpl : CH) (rounds : Nat) : Nat → CH
  | 0, f, args, H, nx, pa => tmpl f args H nx pa
  | k + 1, f, args, H, nx, pa =>
    match tmpl f args H nx pa with
    | some r => some r
    | none =>
      match T.fi f with
      | some i =>
        match exec T (callX T tmpl rounds k) rounds i.body ⟨args ++ List.replicate (i.ntmps - args.length) SV.undef, H, nx, pa⟩ with
        | some ls => outx T nx i.results ls
        | none => none
      | none => none

end Go.Sx
