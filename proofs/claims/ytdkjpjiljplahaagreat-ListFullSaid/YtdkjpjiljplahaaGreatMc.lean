/- The program's objects as plain data, and what one step does to them: by the text, operation for operation. Nothing here is a claim. -/
import Derived.Test.YtdkjpjiljplahaaGreatMa
import Derived.Test.YtdkjpjiljplahaaGreatProg
import Derived.Test.YtdkjpjiljplahaaGreatMb
namespace Go.Fl
open Go Go.Sx

abbrev i64 (n : Int) : Int := IntKind.i64.wrap n
abbrev u64 (n : Int) : Int := IntKind.u64.wrap n
def ltI (a b : Int) : Bool := decide (a < b)
def mx (a b : Int) : Int := if b > a then b else a
def mn (a b : Int) : Int := if b < a then b else a
def bor (a b : Int) : Int := bitsInt .or .u64 a b
def band (a b : Int) : Int := bitsInt .and .u64 a b
def shl (a n : Int) : Int := shiftInt .shl .u64 a n
def shr (a n : Int) : Int := shiftInt .shr .u64 a n

/-! ### word -/
def fit (n most : Int) : Int := u64 (mn (mx n 0) most)
def putHandle (s g : Int) : Int := bor (fit s 65535) (shl (fit g 65535) 16)
def handleOk (n : Int) : Bool := (shr n 32 == 0) && !(shr n 16 == 0)
def handleSlot (n : Int) : Int := if handleOk n then i64 (band n 65535) else 0
def handleGen (n : Int) : Int := if handleOk n then i64 (shr n 16) else 0
def putSlot (s a g v : Int) : Int := bor (bor (bor (fit s 7) (shl (fit a 1048575) 3)) (shl (fit g 65535) 23)) (shl (fit v 4194303) 39)
def slotState (w : Int) : Int := i64 (band w 7)
def slotAddr (w : Int) : Int := i64 (band (shr w 3) 1048575)
def slotGen (w : Int) : Int := i64 (band (shr w 23) 65535)
def slotVer (w : Int) : Int := i64 (band (shr w 39) 4194303)
def putChunk (s c u t : Int) : Int := bor (bor (bor (fit s 3) (shl (fit c 63) 2)) (shl (fit u 1048575) 8)) (shl (fit t 68719476735) 28)
def chunkState (w : Int) : Int := i64 (band w 3)
def chunkClass (w : Int) : Int := i64 (band (shr w 2) 63)
def chunkUsed (w : Int) : Int := i64 (band (shr w 8) 1048575)
def chunkStamp (w : Int) : Int := i64 (band (shr w 28) 68719476735)
def putHead0 (k s l g : Int) : Int := bor (bor (bor (fit k 3) (shl (fit s 65535) 2)) (shl (fit l 65535) 18)) (shl (fit g 65535) 34)
def ownBit (n : Int) (own : Bool) : Int := if own then bor n 1125899906842624 else n
def putHead (k s l g : Int) (own : Bool) : Int := ownBit (putHead0 k s l g) own
def headKind (w : Int) : Int := i64 (band w 3)
def headSize (w : Int) : Int := i64 (band (shr w 2) 65535)
def headSlot (w : Int) : Int := i64 (band (shr w 18) 65535)
def headGen (w : Int) : Int := i64 (band (shr w 34) 65535)
def headOwn (w : Int) : Bool := band (shr w 50) 1 == 1
def putCell (v : Int) (frozen : Bool) (ver : Int) : Int :=
  if frozen then bor (fit v 1099511627775) (bor 9223372036854775808 (shl (fit ver 4194303) 40)) else fit v 1099511627775
def cellValue (w : Int) : Int := i64 (band w 1099511627775)
def cellFrozen (w : Int) : Bool := shr w 63 == 1
def cellVer (w : Int) : Int := if cellFrozen w then i64 (band (shr w 40) 4194303) else 0
def putTop (s c : Int) : Int := bor (fit (i64 (mn s 65535 + 1)) 65536) (shl (fit c 68719476735) 17)
def topSlot (w : Int) : Int := i64 (i64 (band w 131071) - 1)
def topCount (w : Int) : Int := i64 (band (shr w 17) 68719476735)

/-! ### layout -/
structure Cfg where
  threads : Int
  slots : Int
  chunks : Int
  words : Int
  gens : Int
  sparse : Int
  tries : Int
  deriving DecidableEq, Repr, Inhabited

def slotAt (c : Cfg) (i : Int) : Int := i64 (i64 (6 + c.threads) + i64 (2 * i))
def chunkAt (c : Cfg) (i : Int) : Int := i64 (i64 (i64 (6 + c.threads) + i64 (2 * c.slots)) + i64 (3 * i))
def baseAt (c : Cfg) (i : Int) : Int := i64 (i64 (i64 (i64 (6 + c.threads) + i64 (2 * c.slots)) + i64 (3 * c.chunks)) + i64 (c.words * i))
def lenOf (c : Cfg) : Int := baseAt c c.chunks
def pinAt (t : Int) : Int := i64 (6 + t)
def openAt (k : Int) : Int := i64 (2 + k)
def classOf (size : Int) : Int :=
  if size < 1 then -1 else if size ≤ 2 then 0 else if size ≤ 4 then 1 else if size ≤ 8 then 2 else if size ≤ 16 then 3 else -1
def roomOf (k : Int) : Int := if k < 0 then 0 else i64 (1 + IntKind.i64.wrap (2 * 2 ^ (min k.toNat 64)))
/-- divided by as many words as a chunk has -/
def ofAt (c : Cfg) (a : Int) : Int :=
  if a < baseAt c 0 then -1 else if !(decide (a < lenOf c)) then -1 else i64 ((i64 (a - baseAt c 0)).tdiv c.words)

/-! ### mem -/
structure Mem where
  w : List Int
  when : List Int
  steps : Int
  who : Int
  la : Int
  lw : Int
  lc : Bool
  deriving DecidableEq, Repr, Inhabited

namespace Mem
def okA (m : Mem) (a : Int) : Bool := !(decide (a < 0)) && decide (a < m.w.length)
def by' (m : Mem) (who : Int) : Mem := { m with who := who }
def step (m : Mem) (a : Int) : Mem := { m with steps := i64 (m.steps + 1), la := a, lw := m.who, lc := false }
def at' (m : Mem) (a : Int) : Int := m.w.getD a.toNat 0
def set (m : Mem) (a x : Int) : Mem :=
  if m.at' a == x then { m with w := m.w.set a.toNat x, lc := false }
  else { m with w := m.w.set a.toNat x, when := m.when.set a.toNat m.steps, lc := true }
def load (m : Mem) (who a : Int) : Mem := if (m.by' who).okA a then (m.by' who).step a else m.by' who
def val (m : Mem) (a : Int) : Int := if m.okA a then m.at' a else 0
def store (m : Mem) (who a x : Int) : Mem := if (m.by' who).okA a then ((m.by' who).step a).set a x else m.by' who
def casOk (m : Mem) (a old : Int) : Bool := m.okA a && (m.at' a == old)
def cas (m : Mem) (who a old x : Int) : Mem :=
  if (m.by' who).okA a then (if m.at' a == old then ((m.by' who).step a).set a x else (m.by' who).step a) else m.by' who
def add (m : Mem) (who a d : Int) : Mem := if (m.by' who).okA a then ((m.by' who).step a).set a (u64 (m.at' a + u64 d)) else m.by' who
def whenAt (m : Mem) (a : Int) : Int := if m.okA a then m.when.getD a.toNat 0 else 0
end Mem

/-! ### slot -/
structure Take where
  pc : Int
  top : Int
  next : Int
  slot : Int
  ok : Bool
  deriving DecidableEq, Repr, Inhabited
structure Give where
  pc : Int
  slot : Int
  top : Int
  deriving DecidableEq, Repr, Inhabited

def takeStep (c : Cfg) (who : Int) (t : Take) (m : Mem) : Take × Mem × Bool :=
  if t.pc = 0 then
    let top := m.val 1
    let s := topSlot top
    ({ t with top := top, slot := s, pc := 1 }, m.load who 1, ltI s 0)
  else if t.pc = 1 then
    let a := i64 (slotAt c t.slot + 1)
    ({ t with next := topSlot (m.val a), pc := 2 }, m.load who a, t.ok)
  else
    let x := putTop t.next (i64 (topCount t.top + 1))
    ({ t with pc := 0, ok := m.casOk 1 t.top }, m.cas who 1 t.top x, m.casOk 1 t.top)

def giveStep (c : Cfg) (who : Int) (g : Give) (m : Mem) : Give × Mem × Bool :=
  if g.pc = 0 then ({ g with top := m.val 1, pc := 1 }, m.load who 1, false)
  else if g.pc = 1 then ({ g with pc := 2 }, m.store who (i64 (slotAt c g.slot + 1)) (putTop (topSlot g.top) 0), false)
  else ({ g with pc := 0 }, m.cas who 1 g.top (putTop g.slot (i64 (topCount g.top + 1))), m.casOk 1 g.top)

/-! ### place -/
structure Place where
  class' : Int
  pc : Int
  op : Int
  at' : Int
  w : Int
  addr : Int
  chunk : Int
  ok : Bool
  deriving DecidableEq, Repr, Inhabited

def freshW (p : Place) : Int := putChunk 1 p.class' 0 (i64 (chunkStamp p.w + 1))
def placeOn (c : Cfg) (p : Place) (m : Mem) : Place × Mem × Bool :=
  ({ p with at' := i64 (p.at' + 1), pc := 3 }, m, !(ltI (i64 (p.at' + 1)) c.chunks))

def placeStep (c : Cfg) (who : Int) (p : Place) (m : Mem) : Place × Mem × Bool :=
  if p.pc = 0 then
    let x := m.val (openAt p.class')
    let a := i64 (i64 x - 1)
    (if a < 0 then { p with op := x, at' := 0, pc := 3 } else { p with op := x, at' := a, pc := 1 }, m.load who (openAt p.class'), false)
  else if p.pc = 1 then
    let w := m.val (chunkAt c p.at')
    (if chunkState w = 1 ∧ chunkClass w = p.class' ∧ ¬ c.words < i64 (chunkUsed w + roomOf p.class') then { p with w := w, pc := 2 } else { p with w := w, at' := 0, pc := 3 },
      m.load who (chunkAt c p.at'), false)
  else if p.pc = 2 then
    let u := chunkUsed p.w
    let x := putChunk (chunkState p.w) (chunkClass p.w) (i64 (u + roomOf p.class')) (chunkStamp p.w)
    if m.casOk (chunkAt c p.at') p.w then
      ({ p with pc := 0, addr := i64 (baseAt c p.at' + u), chunk := p.at', ok := true }, m.cas who (chunkAt c p.at') p.w x, true)
    else ({ p with pc := 0 }, m.cas who (chunkAt c p.at') p.w x, false)
  else if p.pc = 3 then
    let w := m.val (chunkAt c p.at')
    let m' := m.load who (chunkAt c p.at')
    if chunkState w = 0 then ({ p with w := w, pc := 4 }, m', false) else placeOn c { p with w := w } m'
  else if p.pc = 4 then
    let m' := m.cas who (chunkAt c p.at') p.w (freshW p)
    if m.casOk (chunkAt c p.at') p.w then ({ p with pc := 5 }, m', false) else placeOn c p m'
  else if p.pc = 5 then
    let m' := m.cas who (openAt p.class') p.op (u64 (i64 (p.at' + 1)))
    ({ p with pc := if m.casOk (openAt p.class') p.op then 0 else 6 }, m', false)
  else
    ({ p with pc := 0 }, m.cas who (chunkAt c p.at') (freshW p) (putChunk 0 0 0 (i64 (chunkStamp p.w + 2))), false)

/-! ### drop -/
structure Help where
  slot : Int
  w : Int
  size : Int
  i : Int
  cell : Int
  read : Bool
  won : Bool
  deriving DecidableEq, Repr, Inhabited

def live (st gen hgen : Int) : Bool := (st == 1 || st == 2 || st == 4) && gen == hgen

def helpStep (c : Cfg) (who : Int) (h : Help) (m : Mem) : Help × Mem × Bool :=
  let a := i64 (i64 (slotAddr h.w + 1) + h.i)
  if ¬ h.i < h.size then
    let g := slotGen h.w
    let next := if g < c.gens then putSlot 0 0 (i64 (g + 1)) 0 else putSlot 3 0 g 0
    ({ h with won := m.casOk (slotAt c h.slot) h.w }, m.cas who (slotAt c h.slot) h.w next, true)
  else if h.read = false then
    let x := m.val a
    let m' := m.load who a
    if cellFrozen x = false ∨ ¬ cellVer x = slotVer h.w then ({ h with cell := x, read := true }, m', false)
    else ({ h with cell := x, read := false, i := i64 (h.i + 1) }, m', false)
  else
    let x := putCell (cellValue h.cell) true (slotVer h.w)
    let m' := m.cas who a h.cell x
    if m.casOk a h.cell then ({ h with read := false, i := i64 (h.i + 1) }, m', false) else ({ h with read := false }, m', false)

structure Done where
  e : Int
  handle : Int
  value : Int
  stamp : Int
  deriving DecidableEq, Repr, Inhabited

structure Alloc where
  size : Int
  own : Bool
  pc : Int
  take : Take
  at' : Int
  gen : Int
  p : Option Place
  addr : Int
  chunk : Int
  give : Option Give
  out : Done
  deriving DecidableEq, Repr, Inhabited

def placeNew (k : Int) : Place := ⟨k, 0, 0, 0, 0, 0, 0, false⟩
def giveNew (s : Int) : Give := ⟨0, s, 0⟩
def helpNew (s w z : Int) : Help := ⟨s, w, z, 0, 0, false, false⟩
def spotAddr (p : Place) : Int := if p.ok then p.addr else 0
def spotChunk (p : Place) : Int := if p.ok then p.chunk else 0
def takeSlot (t : Take) : Int := if t.ok then t.slot else 0

def allocHead (a : Alloc) (kind : Int) : Int := putHead kind a.size a.at' a.gen a.own

def allocStep (c : Cfg) (who : Int) (a : Alloc) (m : Mem) : Alloc × Mem × Bool :=
  if a.pc = 0 then
    if classOf a.size < 0 then ({ a with out := ⟨5, 0, 0, m.steps⟩ }, m, true) else
    let r := takeStep c who a.take m
    let a1 := { a with take := r.1 }
    if r.2.2 then
      let a2 := { a1 with at' := takeSlot r.1, pc := 1 }
      if r.1.ok then (a2, r.2.1, false) else ({ a2 with out := ⟨7, 0, 0, r.2.1.steps⟩ }, r.2.1, true)
    else (a1, r.2.1, false)
  else if a.pc = 1 then
    ({ a with gen := slotGen (m.val (slotAt c a.at')), pc := 2, p := some (placeNew (classOf a.size)) }, m.load who (slotAt c a.at'), false)
  else if a.pc = 2 then
    match a.p with
    | none => (a, m, false)
    | some p =>
      let r := placeStep c who p m
      let a1 := { a with p := some r.1 }
      if r.2.2 then
        let a2 := { a1 with addr := spotAddr r.1, chunk := spotChunk r.1, pc := 3 }
        if r.1.ok then (a2, r.2.1, false)
        else ({ a2 with out := ⟨6, 0, 0, r.2.1.steps⟩, give := some (giveNew a.at'), pc := 7 }, r.2.1, false)
      else (a1, r.2.1, false)
  else if a.pc = 3 then
    ({ a with pc := 4 }, m.add who (i64 (chunkAt c a.chunk + 1)) (roomOf (classOf a.size)), false)
  else if a.pc = 4 then ({ a with pc := 5 }, m.store who a.addr (allocHead a 1), false)
  else if a.pc = 5 then
    let m' := m.store who (slotAt c a.at') (putSlot 1 a.addr a.gen 0)
    ({ a with out := ⟨0, putHandle a.at' a.gen, 0, m'.steps⟩, pc := 6 }, m', false)
  else if a.pc = 6 then (a, m.store who a.addr (allocHead a 2), true)
  else
    match a.give with
    | none => (a, m, false)
    | some g => let r := giveStep c who g m; ({ a with give := some r.1 }, r.2.1, r.2.2)

def allocNew (size : Int) (own : Bool) : Alloc := ⟨size, own, 0, ⟨0, 0, 0, 0, false⟩, 0, 0, none, 0, 0, none, ⟨0, 0, 0, 0⟩⟩

structure Drop where
  n : Int
  own : Bool
  hslot : Int
  hgen : Int
  pc : Int
  w : Int
  size : Int
  help : Option Help
  give : Option Give
  out : Done
  deriving DecidableEq, Repr, Inhabited

def dropNew (n : Int) (own : Bool) : Drop := ⟨n, own, 0, 0, 0, 0, 0, none, none, ⟨0, 0, 0, 0⟩⟩
def dropInvalid (d : Drop) (m : Mem) : Drop × Mem × Bool := ({ d with out := ⟨3, 0, 0, m.steps⟩ }, m, true)

def dropStep (c : Cfg) (who : Int) (d : Drop) (m : Mem) : Drop × Mem × Bool :=
  if d.pc = 0 then
    let d1 := { d with hslot := handleSlot d.n, hgen := handleGen d.n }
    if handleOk d.n = false ∨ ¬ handleSlot d.n < c.slots then dropInvalid d1 m else
    let w := m.val (slotAt c (handleSlot d.n))
    let m' := m.load who (slotAt c (handleSlot d.n))
    let d2 := { d1 with w := w }
    if live (slotState w) (slotGen w) (handleGen d.n) then ({ d2 with pc := 1 }, m', false) else dropInvalid d2 m'
  else if d.pc = 1 then
    let x := m.val (slotAddr d.w)
    let m' := m.load who (slotAddr d.w)
    if headOwn x = d.own then
      if slotState d.w = 4 then ({ d with size := headSize x, help := some (helpNew d.hslot d.w (headSize x)), pc := 4 }, m', false)
      else ({ d with size := headSize x, pc := 2 }, m', false)
    else dropInvalid d m'
  else if d.pc = 2 then
    let x := putSlot 4 (slotAddr d.w) (slotGen d.w) (i64 (slotVer d.w + 1))
    let m' := m.cas who (slotAt c d.hslot) d.w x
    if m.casOk (slotAt c d.hslot) d.w then ({ d with help := some (helpNew d.hslot x d.size), pc := 3 }, m', false)
    else ({ d with pc := 0 }, m', false)
  else if d.pc = 3 then
    match d.help with
    | none => (d, m, false)
    | some h =>
      let r := helpStep c who h m
      if r.2.2 then ({ d with help := some r.1, out := ⟨0, 0, 0, r.2.1.whenAt (slotAt c d.hslot)⟩, pc := 5 }, r.2.1, false)
      else ({ d with help := some r.1 }, r.2.1, false)
  else if d.pc = 4 then
    match d.help with
    | none => (d, m, false)
    | some h =>
      let r := helpStep c who h m
      ({ d with help := some r.1, pc := if r.2.2 then 0 else d.pc }, r.2.1, false)
  else if d.pc = 5 then
    ({ d with give := some (giveNew d.hslot), pc := 6 }, m.add who (i64 (chunkAt c (ofAt c (slotAddr d.w)) + 1)) (i64 (0 - roomOf (classOf d.size))), !(ltI d.hgen c.gens))
  else
    match d.give with
    | none => (d, m, false)
    | some g => let r := giveStep c who g m; ({ d with give := some r.1 }, r.2.1, r.2.2)

/-! ### access -/
structure Access where
  kind : Int
  handle : Int
  index : Int
  value : Int
  old : Int
  own : Bool
  hslot : Int
  hgen : Int
  pc : Int
  w : Int
  cell : Int
  seen : Int
  read : Int
  size : Int
  help : Option Help
  out : Done
  deriving DecidableEq, Repr, Inhabited

def accessNew (kind handle index value old : Int) (own : Bool) : Access :=
  ⟨kind, handle, index, value, old, own, 0, 0, 0, 0, 0, 0, 0, 0, none, ⟨0, 0, 0, 0⟩⟩
def accAt (a : Access) : Int := i64 (i64 (slotAddr a.w + 1) + a.index)
def accEnd (a : Access) (m : Mem) (e value stamp : Int) : Access × Mem × Bool := ({ a with out := ⟨e, 0, value, stamp⟩ }, m, true)
def accNext (a : Access) : Int :=
  if a.kind = 1 ∨ (a.kind = 3 ∧ ¬ cellValue a.cell = a.old) then 6
  else if slotState a.w = 4 then 4
  else if cellFrozen a.cell = false ∨ cellVer a.cell < slotVer a.w then 5
  else if cellVer a.cell = slotVer a.w ∧ slotState a.w = 2 then 3
  else 0

def accessStep (c : Cfg) (who : Int) (a : Access) (m : Mem) : Access × Mem × Bool :=
  if a.pc = 0 then
    let a1 := { a with hslot := handleSlot a.handle, hgen := handleGen a.handle }
    if handleOk a.handle = false ∨ ¬ handleSlot a.handle < c.slots then accEnd a1 m 3 0 m.steps else
    let w := m.val (slotAt c (handleSlot a.handle))
    let m' := m.load who (slotAt c (handleSlot a.handle))
    let a2 := { a1 with w := w, seen := m'.steps, pc := 1 }
    if live (slotState w) (slotGen w) (handleGen a.handle) then (a2, m', false) else accEnd a2 m' 3 0 m'.steps
  else if a.pc = 1 then
    let x := m.val (slotAddr a.w)
    let m' := m.load who (slotAddr a.w)
    let a1 := { a with size := headSize x, pc := 2 }
    if ¬ headOwn x = a.own then accEnd a1 m' 3 0 m'.steps
    else if a.index < 0 ∨ ¬ a.index < headSize x then accEnd a1 m' 4 0 a.seen
    else (a1, m', false)
  else if a.pc = 2 then
    let m' := m.load who (accAt a)
    let a1 := { a with cell := m.val (accAt a), read := m'.steps }
    let a2 := { a1 with pc := accNext a1 }
    if accNext a1 = 4 then ({ a2 with help := some (helpNew a.hslot a.w a.size) }, m', false) else (a2, m', false)
  else if a.pc = 3 then
    ({ a with pc := 0 }, m.cas who (slotAt c a.hslot) a.w (putSlot 1 (slotAddr a.w) (slotGen a.w) (i64 (slotVer a.w + 1))), false)
  else if a.pc = 4 then
    match a.help with
    | none => (a, m, false)
    | some h =>
      let r := helpStep c who h m
      ({ a with help := some r.1, pc := if r.2.2 then 0 else a.pc }, r.2.1, false)
  else if a.pc = 5 then
    let m' := m.cas who (accAt a) a.cell (putCell a.value false 0)
    let a1 := { a with pc := 0 }
    if m.casOk (accAt a) a.cell then accEnd a1 m' 0 (cellValue a.cell) m'.steps else (a1, m', false)
  else
    let x := m.val (slotAt c a.hslot)
    let m' := m.load who (slotAt c a.hslot)
    if live (slotState x) (slotGen x) a.hgen = false then accEnd a m' 3 0 m'.steps
    else if ¬ slotAddr x = slotAddr a.w then ({ a with pc := 0 }, m', false)
    else if a.kind = 3 then accEnd a m' 8 (cellValue a.cell) a.read
    else accEnd a m' 0 (cellValue a.cell) a.read

/-! ### act -/
inductive Work where
  | alloc (a : Alloc)
  | drop (d : Drop)
  | access (a : Access)
  deriving DecidableEq, Repr, Inhabited

def Work.out : Work → Done
  | .alloc a => a.out | .drop d => d.out | .access a => a.out
def workStep (c : Cfg) (who : Int) (x : Work) (m : Mem) : Work × Mem × Bool :=
  match x with
  | .alloc a => let r := allocStep c who a m; (.alloc r.1, r.2.1, r.2.2)
  | .drop d => let r := dropStep c who d m; (.drop r.1, r.2.1, r.2.2)
  | .access a => let r := accessStep c who a m; (.access r.1, r.2.1, r.2.2)

structure In where
  pc : Int
  epoch : Int
  deriving DecidableEq, Repr, Inhabited
def inStep (who : Int) (p : In) (m : Mem) : In × Mem × Bool :=
  if p.pc = 0 then (⟨1, m.val 0⟩, m.load who 0, false)
  else if p.pc = 1 then ({ p with pc := 2 }, m.store who (pinAt who) (u64 (p.epoch + 1)), false)
  else
    let w := m.val 0
    if w = p.epoch then (p, m.load who 0, true) else (⟨1, w⟩, m.load who 0, false)

structure Act where
  inn : In
  pc : Int
  work : Work
  out : Done
  deriving DecidableEq, Repr, Inhabited

def actStep (c : Cfg) (who : Int) (a : Act) (m : Mem) : Act × Mem × Bool :=
  if a.pc = 0 then
    let r := inStep who a.inn m
    ({ a with inn := r.1, pc := if r.2.2 then 1 else a.pc }, r.2.1, false)
  else if a.pc = 1 then
    let r := workStep c who a.work m
    (if r.2.2 then { a with work := r.1, out := r.1.out, pc := 2 } else { a with work := r.1 }, r.2.1, false)
  else (a, m.store who (pinAt who) 0, true)

/-- what an act is: kind, size, handle, index, value, old, own -/
structure ActX where
  kind : Int
  size : Int
  handle : Int
  index : Int
  value : Int
  old : Int
  own : Bool
  deriving DecidableEq, Repr, Inhabited

def actCheck (x : ActX) : Bool :=
  !(ltI x.kind 1) && !(ltI 5 x.kind) && (!(ltI x.value 0) && !(ltI 1099511627775 x.value) && !(ltI x.old 0) && !(ltI 1099511627775 x.old))
def actWork (x : ActX) : Work :=
  if x.kind = 1 then .alloc (allocNew x.size x.own)
  else if x.kind = 2 then .drop (dropNew x.handle x.own)
  else .access (accessNew (i64 (i64 (x.kind - 3) + 1)) x.handle x.index x.value x.old x.own)
def actNew (x : ActX) : Act := ⟨⟨0, 0⟩, 0, actWork x, ⟨0, 0, 0, 0⟩⟩

/-! ### list -/
structure Lst where
  kind : Int
  key : Int
  head : Int
  pc : Int
  a : Option Act
  pred : Int
  curr : Int
  link : Int
  node : Int
  seen : Int
  out : Done
  deriving DecidableEq, Repr, Inhabited

def ibits (op : BinOp) (a b : Int) : Int := bitsInt op .i64 a b
def linkNext (n : Int) : Int := bitsInt .and .u64 (u64 n) 4294967295
def linkGone (n : Int) : Bool := !(ibits .and n 4294967296 == 0)
def putLink (next : Int) (gone : Bool) : Int :=
  if gone then ibits .or (i64 (band next 4294967295)) 4294967296 else i64 (band next 4294967295)
def listCheck (kind key : Int) : Bool := !(ltI kind 1) && !(ltI 3 kind) && !(ltI key 0) && ltI key 1073741824
def listNew (kind key head : Int) : Lst := ⟨kind, key, head, 0, none, 0, 0, 0, 0, 0, ⟨0, 0, 0, 0⟩⟩

def listWant (l : Lst) : ActX :=
  if l.pc = 0 then ⟨3, 0, l.head, 1, 0, 0, true⟩
  else if l.pc = 2 then ⟨3, 0, l.curr, 0, 0, 0, true⟩
  else if l.pc = 3 ∨ l.pc = 10 then ⟨5, 0, l.pred, 1, putLink (linkNext l.link) false, i64 l.curr, true⟩
  else if l.pc = 4 ∨ l.pc = 11 then ⟨2, 0, if l.pc = 11 ∧ ¬ l.node = 0 then l.node else l.curr, 0, 0, 0, true⟩
  else if l.pc = 5 then ⟨1, 2, 0, 0, 0, 0, true⟩
  else if l.pc = 6 then ⟨4, 0, l.node, 0, l.key, 0, true⟩
  else if l.pc = 7 then ⟨4, 0, l.node, 1, i64 l.curr, 0, true⟩
  else if l.pc = 8 then ⟨5, 0, l.pred, 1, i64 l.node, i64 l.curr, true⟩
  else if l.pc = 9 then ⟨5, 0, l.curr, 1, ibits .or l.link 4294967296, l.link, true⟩
  else ⟨3, 0, l.curr, 1, 0, 0, true⟩

def listEnd (l : Lst) (e value stamp : Int) : Lst × Bool :=
  if ¬ l.node = 0 then ({ l with out := ⟨e, 0, value, stamp⟩, pc := 11 }, false) else ({ l with out := ⟨e, 0, value, stamp⟩ }, true)
def listAgain (l : Lst) : Lst × Bool := ({ l with pc := 0 }, false)
def listAbsent (l : Lst) : Lst × Bool :=
  if ¬ l.kind = 2 then listEnd l 0 0 l.seen else ({ l with pc := if ¬ l.node = 0 then 7 else 5 }, false)
def listAt (l : Lst) (pred n stamp : Int) : Lst × Bool :=
  let l1 := { l with pred := pred, curr := linkNext n, seen := stamp }
  if linkNext n = 0 then listAbsent l1 else ({ l1 with pc := 1 }, false)
def listPresent (l : Lst) (stamp : Int) : Lst × Bool :=
  if l.kind = 3 then ({ l with pc := 9 }, false)
  else if l.kind = 2 then listEnd l 0 0 stamp
  else listEnd l 0 1 stamp
def listLooked (l : Lst) (d : Done) : Lst × Bool :=
  if ¬ d.e = 0 ∧ l.pc = 0 then listEnd l d.e 0 d.stamp
  else if ¬ d.e = 0 then listAgain l
  else if l.pc = 0 then listAt l l.head d.value d.stamp
  else if l.pc = 1 then
    if linkGone d.value then ({ l with link := d.value, pc := 3 }, false)
    else ({ l with link := d.value, pc := 2, out := { l.out with stamp := d.stamp } }, false)
  else if d.value < l.key then listAt l l.curr l.link l.out.stamp
  else if d.value = l.key then listPresent l l.out.stamp
  else listAbsent l
def listUnlinked (l : Lst) (d : Done) : Lst × Bool :=
  if l.pc = 4 then listAt l l.pred (ibits .and l.link 4294967295) l.seen
  else if ¬ d.e = 0 then listAgain l
  else ({ l with seen := d.stamp, pc := 4 }, false)
def listJoined (l : Lst) (d : Done) : Lst × Bool :=
  if l.pc = 5 then
    if ¬ d.e = 0 then listEnd l d.e 0 d.stamp else ({ l with node := d.handle, pc := 6 }, false)
  else if l.pc = 6 then ({ l with pc := 7 }, false)
  else if l.pc = 7 then ({ l with pc := 8 }, false)
  else if ¬ d.e = 0 then listAgain l
  else listEnd { l with node := 0 } 0 1 d.stamp
def listRemoved (l : Lst) (d : Done) : Lst × Bool :=
  if l.pc = 9 then
    if ¬ d.e = 0 then listAgain l else ({ l with out := ⟨0, 0, 1, d.stamp⟩, pc := 10 }, false)
  else if l.pc = 10 then ({ l with pc := 11 }, !(d.e == 0))
  else (l, true)

def listTold (l : Lst) (d : Done) : Lst × Bool :=
  if l.pc = 0 ∨ l.pc = 1 ∨ l.pc = 2 then listLooked l d
  else if l.pc = 3 ∨ l.pc = 4 then listUnlinked l d
  else if l.pc = 5 ∨ l.pc = 6 ∨ l.pc = 7 ∨ l.pc = 8 then listJoined l d
  else listRemoved l d

def listStep (c : Cfg) (who : Int) (l : Lst) (m : Mem) : Lst × Mem × Bool :=
  match (match l.a with | some a => some a | none => if actCheck (listWant l) then some (actNew (listWant l)) else none) with
  | none => let x := listTold { l with a := none } ⟨1, 0, 0, 0⟩; (x.1, m, x.2)   -- an act that may not be
  | some a =>
    let r := actStep c who a m
    if r.2.2 then
      let x := listTold { l with a := none } r.1.out
      (x.1, r.2.1, x.2)
    else ({ l with a := some r.1 }, r.2.1, false)

/-! ### an arena at the beginning -/
def cfgCheck (c : Cfg) : Bool :=
  (!(ltI c.threads 1) && !(ltI 8 c.threads) && !(ltI c.slots 1) && !(ltI 65536 c.slots)) && (!(ltI c.chunks 1) && !(ltI 64 c.chunks) && !(ltI c.words 17) && !(ltI 256 c.words)) &&
    (!(ltI c.gens 1) && !(ltI 65535 c.gens) && !(ltI c.sparse 0) && !(ltI 1000 c.sparse) && !(ltI c.tries 1) && !(ltI 16 c.tries))
def memNew (n : Int) : Mem := ⟨List.replicate n.toNat 0, List.replicate n.toNat 0, 0, 0, 0, 0, false⟩
def freshOne (c : Cfg) (i : Int) (m : Mem) : Mem :=
  (m.store m.who (slotAt c i) (putSlot 0 0 1 0)).store m.who (i64 (slotAt c i + 1)) (putTop (i64 (i + 1)) 0)
def freshLoop (c : Cfg) : Nat → Int → Mem → Mem
  | 0, _, m => m
  | k + 1, i, m => freshLoop c k (i64 (i + 1)) (freshOne c i m)
/-- from slot i on -/
def freshFrom (c : Cfg) (i : Int) (m : Mem) : Mem := freshLoop c (c.slots - i).toNat i m
def freshEnd (c : Cfg) (m : Mem) : Mem := (m.store m.who (i64 (slotAt c (i64 (c.slots - 1)) + 1)) (putTop (-1) 0)).store m.who 1 (putTop 0 0)
def freshMem (c : Cfg) : Mem := freshEnd c (freshFrom c 0 (memNew (lenOf c)))

/-! ### step by step till the end, so many steps at most -/
def runAct (c : Cfg) (who : Int) : Nat → Act → Mem → Act × Mem
  | 0, a, m => (a, m)
  | k + 1, a, m => let r := actStep c who a m; if r.2.2 then (r.1, r.2.1) else runAct c who k r.1 r.2.1
def runLst (c : Cfg) (who : Int) : Nat → Lst → Mem → Lst × Mem
  | 0, a, m => (a, m)
  | k + 1, a, m => let r := listStep c who a m; if r.2.2 then (r.1, r.2.1) else runLst c who k r.1 r.2.1
/-- an act, alone -/
def doP (c : Cfg) (who : Int) (x : ActX) (m : Mem) : Done × Mem :=
  if actCheck x then let r := runAct c who 500 (actNew x) m; (r.1.out, r.2) else (⟨1, 0, 0, 0⟩, m)
/-- something is asked of a list, alone -/
def askP (c : Cfg) (who : Int) (head kind key : Int) (m : Mem) : Done × Mem :=
  if listCheck kind key then let r := runLst c who 20000 (listNew kind key head) m; (r.1.out, r.2) else (⟨1, 0, 0, 0⟩, m)
def cfgA (t s k w : Int) : Cfg := ⟨t, s, k, w, 100, 600, 3⟩
end Go.Fl

/- The tables of types and functions, printed by mktab.lean. Nothing here is a claim. -/
namespace Go.Fl
open Go Go.Sx Go.Proofs

inductive Tr (α : Type) | leaf | node (l : Tr α) (k : Nat) (v : α) (r : Tr α)
def Tr.find {α : Type} : Tr α → Nat → Option α
  | .leaf, _ => none
  | .node l k v r, n => match Nat.beq n k with | true => some v | false => match Nat.blt n k with | true => l.find n | false => r.find n
def Tr.all {α : Type} (p : Nat → α → Prop) : Tr α → Prop
  | .leaf => True
  | .node l k v r => l.all p ∧ p k v ∧ r.all p
def Tr.allB {α : Type} (p : Nat → α → Bool) : Tr α → Bool
  | .leaf => true
  | .node l k v r => l.allB p && p k v && r.allB p
theorem Tr.find_all {α : Type} {p : Nat → α → Prop} : ∀ {t : Tr α} {n : Nat} {v : α}, t.all p → t.find n = some v → p n v
  | .leaf, n, v, _, h => by simp [Tr.find] at h
  | .node l k u r, n, v, hp, h => by
    obtain ⟨h1, h2, h3⟩ := hp
    simp only [Tr.find] at h
    split at h
    · rename_i hk
      have : n = k := Nat.eq_of_beq_eq_true hk
      simp at h; subst h; subst this; exact h2
    · split at h
      · exact Tr.find_all h1 h
      · exact Tr.find_all h3 h
theorem Tr.of_allB {α : Type} {p : Nat → α → Bool} : ∀ {t : Tr α}, t.allB p = true → t.all (fun k v => p k v = true)
  | .leaf, _ => trivial
  | .node l k v r, h => by
    simp only [Tr.allB, Bool.and_eq_true] at h
    exact ⟨Tr.of_allB h.1.1, h.1.2, Tr.of_allB h.2⟩

noncomputable def ty2 : TI := ⟨.int .i64, 1, 8, (some (.c (.int .i64 (.int 0)))), []⟩
noncomputable def ty3 : TI := ⟨.int .i64, 1, 8, (some (.c (.int .i64 (.int 0)))), []⟩
noncomputable def ty4 : TI := ⟨.bool, 1, 1, (some (.c (.bool (.bool false)))), []⟩
noncomputable def ty5 : TI := ⟨.int .u8, 1, 1, (some (.c (.int .u8 (.int 0)))), []⟩
noncomputable def ty6 : TI := ⟨.int .u8, 1, 1, (some (.c (.int .u8 (.int 0)))), []⟩
noncomputable def ty7 : TI := ⟨.struct [(0, 2), (1, 3), (2, 4), (3, 6)], 4, 24, (some (.agg [.int .i64 (.int 0), .int .i64 (.int 0), .bool (.bool false), .int .u8 (.int 0)])), []⟩
noncomputable def ty8 : TI := ⟨.struct [(0, 2), (1, 3), (2, 4), (3, 6)], 4, 24, (some (.agg [.int .i64 (.int 0), .int .i64 (.int 0), .bool (.bool false), .int .u8 (.int 0)])), [("Error", some (324, false)), ("RuntimeError", some (325, false))]⟩
noncomputable def ty12 : TI := ⟨.int .u64, 1, 8, (some (.c (.int .u64 (.int 0)))), []⟩
noncomputable def ty13 : TI := ⟨.struct [(0, 9), (1, 12)], 2, 24, none, []⟩
noncomputable def ty14 : TI := ⟨.struct [(0, 9), (1, 12)], 2, 24, none, [("Error", some (330, false)), ("RuntimeError", some (331, false))]⟩
noncomputable def ty15 : TI := ⟨.ptr 390, 1, 8, (some (.c (.nilp))), [("Error", some (332, true)), ("RuntimeError", some (333, true))]⟩
noncomputable def ty16 : TI := ⟨.ptr 393, 1, 8, (some (.c (.nilp))), [("Error", some (334, true)), ("RuntimeError", some (335, true))]⟩
noncomputable def ty17 : TI := ⟨.ptr 401, 1, 8, (some (.c (.nilp))), [("Align", some (336, true))]⟩
noncomputable def ty18 : TI := ⟨.struct [(0, 17)], 1, 8, (some (.agg [.nilp])), []⟩
noncomputable def ty19 : TI := ⟨.struct [(0, 17)], 1, 8, (some (.agg [.nilp])), [("Error", some (337, false)), ("RuntimeError", some (338, false))]⟩
noncomputable def ty20 : TI := ⟨.iface, 1, 16, (some (.c (.niface))), []⟩
noncomputable def ty21 : TI := ⟨.int .i32, 1, 4, (some (.c (.int .i32 (.int 0)))), []⟩
noncomputable def ty22 : TI := ⟨.int .u64, 1, 8, (some (.c (.int .u64 (.int 0)))), []⟩
noncomputable def ty23 : TI := ⟨.struct [(0, 22), (1, 4)], 2, 16, (some (.agg [.int .u64 (.int 0), .bool (.bool false)])), []⟩
noncomputable def ty24 : TI := ⟨.struct [(0, 22), (1, 4)], 2, 16, (some (.agg [.int .u64 (.int 0), .bool (.bool false)])), []⟩
noncomputable def ty29 : TI := ⟨.ptr 162, 1, 8, (some (.c (.nilp))), [("Done", some (37, true)), ("Step", some (36, true)), ("footlocker/list.absent", some (178, true)), ("footlocker/list.again", some (175, true)), ("footlocker/list.at", some (176, true)), ("footlocker/list.end", some (174, true)), ("footlocker/list.joined", some (112, true)), ("footlocker/list.looked", some (110, true)), ("footlocker/list.present", some (177, true)), ("footlocker/list.removed", some (113, true)), ("footlocker/list.unlinked", some (111, true)), ("footlocker/list.want", some (107, true))]⟩
noncomputable def ty30 : TI := ⟨.int .i64, 1, 8, (some (.c (.int .i64 (.int 0)))), []⟩
noncomputable def ty33 : TI := ⟨.struct [(0, 3), (1, 3), (2, 3), (3, 3), (4, 3), (5, 3), (6, 3)], 7, 56, (some (.agg [.int .i64 (.int 0), .int .i64 (.int 0), .int .i64 (.int 0), .int .i64 (.int 0), .int .i64 (.int 0), .int .i64 (.int 0), .int .i64 (.int 0)])), []⟩
noncomputable def ty34 : TI := ⟨.struct [(0, 3), (1, 3), (2, 3), (3, 3), (4, 3), (5, 3), (6, 3)], 7, 56, (some (.agg [.int .i64 (.int 0), .int .i64 (.int 0), .int .i64 (.int 0), .int .i64 (.int 0), .int .i64 (.int 0), .int .i64 (.int 0), .int .i64 (.int 0)])), []⟩
noncomputable def ty35 : TI := ⟨.ptr 191, 1, 8, (some (.c (.nilp))), [("Add", some (294, true)), ("By", some (226, true)), ("Cas", some (227, true)), ("Last", some (50, true)), ("Len", some (92, true)), ("Load", some (241, true)), ("Peek", some (51, true)), ("Steps", some (86, true)), ("Store", some (209, true)), ("When", some (355, true)), ("footlocker/mem.set", some (262, true)), ("footlocker/mem.step", some (261, true))]⟩
noncomputable def ty36 : TI := ⟨.struct [(0, 34), (7, 35), (8, 3)], 9, 72, (some (.agg [.int .i64 (.int 0), .int .i64 (.int 0), .int .i64 (.int 0), .int .i64 (.int 0), .int .i64 (.int 0), .int .i64 (.int 0), .int .i64 (.int 0), .nilp, .int .i64 (.int 0)])), []⟩
noncomputable def ty37 : TI := ⟨.struct [(0, 34), (7, 35), (8, 3)], 9, 72, (some (.agg [.int .i64 (.int 0), .int .i64 (.int 0), .int .i64 (.int 0), .int .i64 (.int 0), .int .i64 (.int 0), .int .i64 (.int 0), .int .i64 (.int 0), .nilp, .int .i64 (.int 0)])), [("Add", some (268, false)), ("Cas", some (184, false)), ("Load", some (189, false)), ("Now", some (40, false)), ("Store", some (191, false))]⟩
noncomputable def ty42 : TI := ⟨.struct [(0, 30), (1, 22), (2, 3), (3, 3)], 4, 32, (some (.agg [.int .i64 (.int 0), .int .u64 (.int 0), .int .i64 (.int 0), .int .i64 (.int 0)])), []⟩
noncomputable def ty43 : TI := ⟨.struct [(0, 30), (1, 22), (2, 3), (3, 3)], 4, 32, (some (.agg [.int .i64 (.int 0), .int .u64 (.int 0), .int .i64 (.int 0), .int .i64 (.int 0)])), []⟩
noncomputable def ty47 : TI := ⟨.slice 3, 1, 24, (some (.c (.nils))), []⟩
noncomputable def ty48 : TI := ⟨.array 4 29, 4, 32, (some (.agg [.nilp, .nilp, .nilp, .nilp])), []⟩
noncomputable def ty49 : TI := ⟨.array 4 4, 4, 4, (some (.agg [.bool (.bool false), .bool (.bool false), .bool (.bool false), .bool (.bool false)])), []⟩
noncomputable def ty52 : TI := ⟨.slice 55, 1, 24, (some (.c (.nils))), []⟩
noncomputable def ty53 : TI := ⟨.slice 4, 1, 24, (some (.c (.nils))), []⟩
noncomputable def ty54 : TI := ⟨.struct [(0, 3), (1, 3), (2, 3)], 3, 24, (some (.agg [.int .i64 (.int 0), .int .i64 (.int 0), .int .i64 (.int 0)])), []⟩
noncomputable def ty55 : TI := ⟨.struct [(0, 3), (1, 3), (2, 3)], 3, 24, (some (.agg [.int .i64 (.int 0), .int .i64 (.int 0), .int .i64 (.int 0)])), []⟩
noncomputable def ty58 : TI := ⟨.array 3 29, 3, 24, (some (.agg [.nilp, .nilp, .nilp])), []⟩
noncomputable def ty59 : TI := ⟨.struct [(0, 55), (3, 43), (7, 3), (8, 3)], 9, 72, (some (.agg [.int .i64 (.int 0), .int .i64 (.int 0), .int .i64 (.int 0), .int .i64 (.int 0), .int .u64 (.int 0), .int .i64 (.int 0), .int .i64 (.int 0), .int .i64 (.int 0), .int .i64 (.int 0)])), []⟩
noncomputable def ty60 : TI := ⟨.struct [(0, 55), (3, 43), (7, 3), (8, 3)], 9, 72, (some (.agg [.int .i64 (.int 0), .int .i64 (.int 0), .int .i64 (.int 0), .int .i64 (.int 0), .int .u64 (.int 0), .int .i64 (.int 0), .int .i64 (.int 0), .int .i64 (.int 0), .int .i64 (.int 0)])), []⟩
noncomputable def ty61 : TI := ⟨.array 3 60, 27, 216, (some (.agg [.int .i64 (.int 0), .int .i64 (.int 0), .int .i64 (.int 0), .int .i64 (.int 0), .int .u64 (.int 0), .int .i64 (.int 0), .int .i64 (.int 0), .int .i64 (.int 0), .int .i64 (.int 0), .int .i64 (.int 0), .int .i64 (.int 0), .int .i64 (.int 0), .int .i64 (.int 0), .int .u64 (.int 0), .int .i64 (.int 0), .int .i64 (.int 0), .int .i64 (.int 0), .int .i64 (.int 0), .int .i64 (.int 0), .int .i64 (.int 0), .int .i64 (.int 0), .int .i64 (.int 0), .int .u64 (.int 0), .int .i64 (.int 0), .int .i64 (.int 0), .int .i64 (.int 0), .int .i64 (.int 0)])), []⟩
noncomputable def ty62 : TI := ⟨.array 3 3, 3, 24, (some (.agg [.int .i64 (.int 0), .int .i64 (.int 0), .int .i64 (.int 0)])), []⟩
noncomputable def ty63 : TI := ⟨.slice 60, 1, 24, (some (.c (.nils))), []⟩
noncomputable def ty69 : TI := ⟨.slice 111, 1, 24, (some (.c (.nils))), []⟩
noncomputable def ty70 : TI := ⟨.struct [(0, 34), (7, 3), (8, 69), (9, 47)], 10, 112, (some (.agg [.int .i64 (.int 0), .int .i64 (.int 0), .int .i64 (.int 0), .int .i64 (.int 0), .int .i64 (.int 0), .int .i64 (.int 0), .int .i64 (.int 0), .int .i64 (.int 0), .nils, .nils])), []⟩
noncomputable def ty71 : TI := ⟨.struct [(0, 34), (7, 3), (8, 69), (9, 47)], 10, 112, (some (.agg [.int .i64 (.int 0), .int .i64 (.int 0), .int .i64 (.int 0), .int .i64 (.int 0), .int .i64 (.int 0), .int .i64 (.int 0), .int .i64 (.int 0), .int .i64 (.int 0), .nils, .nils])), []⟩
noncomputable def ty72 : TI := ⟨.ptr 184, 1, 8, (some (.c (.nilp))), [("Chunk", some (88, true)), ("Do", some (46, true)), ("Ended", some (45, true)), ("Idle", some (102, true)), ("Lives", some (100, true)), ("Mem", some (85, true)), ("Round", some (90, true)), ("Seat", some (65, true)), ("Seen", some (93, true)), ("Settled", some (103, true)), ("Setup", some (47, true)), ("Shelf", some (104, true)), ("Slot", some (99, true)), ("Told", some (48, true)), ("Work", some (91, true)), ("Worker", some (84, true)), ("footlocker/world.env", some (123, true)), ("footlocker/world.made", some (124, true)), ("footlocker/world.note", some (125, true))]⟩
noncomputable def ty76 : TI := ⟨.struct [(0, 34), (7, 3), (8, 69)], 9, 88, (some (.agg [.int .i64 (.int 0), .int .i64 (.int 0), .int .i64 (.int 0), .int .i64 (.int 0), .int .i64 (.int 0), .int .i64 (.int 0), .int .i64 (.int 0), .int .i64 (.int 0), .nils])), []⟩
noncomputable def ty77 : TI := ⟨.struct [(0, 34), (7, 3), (8, 69)], 9, 88, (some (.agg [.int .i64 (.int 0), .int .i64 (.int 0), .int .i64 (.int 0), .int .i64 (.int 0), .int .i64 (.int 0), .int .i64 (.int 0), .int .i64 (.int 0), .int .i64 (.int 0), .nils])), []⟩
noncomputable def ty79 : TI := ⟨.slice 86, 1, 24, (some (.c (.nils))), []⟩
noncomputable def ty81 : TI := ⟨.struct [(0, 3), (1, 3), (2, 22)], 3, 24, (some (.agg [.int .i64 (.int 0), .int .i64 (.int 0), .int .u64 (.int 0)])), []⟩
noncomputable def ty82 : TI := ⟨.struct [(0, 3), (1, 3), (2, 22)], 3, 24, (some (.agg [.int .i64 (.int 0), .int .i64 (.int 0), .int .u64 (.int 0)])), []⟩
noncomputable def ty83 : TI := ⟨.struct [(0, 3), (1, 3), (2, 82), (5, 3), (6, 3), (7, 3), (8, 3)], 9, 72, (some (.agg [.int .i64 (.int 0), .int .i64 (.int 0), .int .i64 (.int 0), .int .i64 (.int 0), .int .u64 (.int 0), .int .i64 (.int 0), .int .i64 (.int 0), .int .i64 (.int 0), .int .i64 (.int 0)])), []⟩
noncomputable def ty84 : TI := ⟨.struct [(0, 3), (1, 3), (2, 82), (5, 3), (6, 3), (7, 3), (8, 3)], 9, 72, (some (.agg [.int .i64 (.int 0), .int .i64 (.int 0), .int .i64 (.int 0), .int .i64 (.int 0), .int .u64 (.int 0), .int .i64 (.int 0), .int .i64 (.int 0), .int .i64 (.int 0), .int .i64 (.int 0)])), []⟩
noncomputable def ty85 : TI := ⟨.struct [(0, 3), (1, 3), (2, 84), (11, 22), (12, 43), (16, 3), (17, 3)], 18, 144, (some (.agg [.int .i64 (.int 0), .int .i64 (.int 0), .int .i64 (.int 0), .int .i64 (.int 0), .int .i64 (.int 0), .int .i64 (.int 0), .int .u64 (.int 0), .int .i64 (.int 0), .int .i64 (.int 0), .int .i64 (.int 0), .int .i64 (.int 0), .int .u64 (.int 0), .int .i64 (.int 0), .int .u64 (.int 0), .int .i64 (.int 0), .int .i64 (.int 0), .int .i64 (.int 0), .int .i64 (.int 0)])), []⟩
noncomputable def ty86 : TI := ⟨.struct [(0, 3), (1, 3), (2, 84), (11, 22), (12, 43), (16, 3), (17, 3)], 18, 144, (some (.agg [.int .i64 (.int 0), .int .i64 (.int 0), .int .i64 (.int 0), .int .i64 (.int 0), .int .i64 (.int 0), .int .i64 (.int 0), .int .u64 (.int 0), .int .i64 (.int 0), .int .i64 (.int 0), .int .i64 (.int 0), .int .i64 (.int 0), .int .u64 (.int 0), .int .i64 (.int 0), .int .u64 (.int 0), .int .i64 (.int 0), .int .i64 (.int 0), .int .i64 (.int 0), .int .i64 (.int 0)])), []⟩
noncomputable def ty89 : TI := ⟨.struct [(0, 3), (1, 3), (2, 4)], 3, 24, (some (.agg [.int .i64 (.int 0), .int .i64 (.int 0), .bool (.bool false)])), []⟩
noncomputable def ty90 : TI := ⟨.struct [(0, 3), (1, 3), (2, 4)], 3, 24, (some (.agg [.int .i64 (.int 0), .int .i64 (.int 0), .bool (.bool false)])), []⟩
noncomputable def ty98 : TI := ⟨.ptr 211, 1, 8, (some (.c (.nilp))), [("Head", some (61, true)), ("Heads", some (62, true)), ("Lists", some (64, true)), ("New", some (60, true))]⟩
noncomputable def ty104 : TI := ⟨.slice 22, 1, 24, (some (.c (.nils))), []⟩
noncomputable def ty108 : TI := ⟨.struct [(0, 3), (1, 3), (2, 3)], 3, 24, (some (.agg [.int .i64 (.int 0), .int .i64 (.int 0), .int .i64 (.int 0)])), []⟩
noncomputable def ty109 : TI := ⟨.struct [(0, 3), (1, 3), (2, 3)], 3, 24, (some (.agg [.int .i64 (.int 0), .int .i64 (.int 0), .int .i64 (.int 0)])), []⟩
noncomputable def ty111 : TI := ⟨.slice 84, 1, 24, (some (.c (.nils))), []⟩
noncomputable def ty115 : TI := ⟨.ptr 222, 1, 8, (some (.c (.nilp))), [("Ended", some (73, true)), ("Idle", some (78, true)), ("Made", some (72, true)), ("Step", some (74, true)), ("Told", some (75, true)), ("footlocker/worker.begin", some (149, true))]⟩
noncomputable def ty120 : TI := ⟨.slice 198, 1, 24, (some (.c (.nils))), []⟩
noncomputable def ty121 : TI := ⟨.struct [(0, 120), (1, 47)], 2, 48, (some (.agg [.nils, .nils])), []⟩
noncomputable def ty122 : TI := ⟨.struct [(0, 120), (1, 47)], 2, 48, (some (.agg [.nils, .nils])), [("Do", some (76, false)), ("footlocker/footlockerref18.find", some (151, false)), ("footlocker/footlockerref18.has", some (155, false)), ("footlocker/footlockerref18.keyed", some (156, false)), ("footlocker/footlockerref18.with", some (153, false)), ("footlocker/footlockerref18.without", some (154, false))]⟩
noncomputable def ty135 : TI := ⟨.struct [(0, 3), (1, 3), (2, 3), (3, 3)], 4, 32, (some (.agg [.int .i64 (.int 0), .int .i64 (.int 0), .int .i64 (.int 0), .int .i64 (.int 0)])), []⟩
noncomputable def ty136 : TI := ⟨.struct [(0, 3), (1, 3), (2, 3), (3, 3)], 4, 32, (some (.agg [.int .i64 (.int 0), .int .i64 (.int 0), .int .i64 (.int 0), .int .i64 (.int 0)])), []⟩
noncomputable def ty141 : TI := ⟨.struct [(0, 3), (1, 3), (2, 3), (3, 3), (4, 3)], 5, 40, (some (.agg [.int .i64 (.int 0), .int .i64 (.int 0), .int .i64 (.int 0), .int .i64 (.int 0), .int .i64 (.int 0)])), []⟩
noncomputable def ty142 : TI := ⟨.struct [(0, 3), (1, 3), (2, 3), (3, 3), (4, 3)], 5, 40, (some (.agg [.int .i64 (.int 0), .int .i64 (.int 0), .int .i64 (.int 0), .int .i64 (.int 0), .int .i64 (.int 0)])), []⟩
noncomputable def ty145 : TI := ⟨.slice 149, 1, 24, (some (.c (.nils))), []⟩
noncomputable def ty148 : TI := ⟨.struct [(0, 136), (4, 3), (5, 4)], 6, 48, (some (.agg [.int .i64 (.int 0), .int .i64 (.int 0), .int .i64 (.int 0), .int .i64 (.int 0), .int .i64 (.int 0), .bool (.bool false)])), []⟩
noncomputable def ty149 : TI := ⟨.struct [(0, 136), (4, 3), (5, 4)], 6, 48, (some (.agg [.int .i64 (.int 0), .int .i64 (.int 0), .int .i64 (.int 0), .int .i64 (.int 0), .int .i64 (.int 0), .bool (.bool false)])), []⟩
noncomputable def ty150 : TI := ⟨.struct [(0, 3), (1, 3), (2, 3), (3, 3)], 4, 32, (some (.agg [.int .i64 (.int 0), .int .i64 (.int 0), .int .i64 (.int 0), .int .i64 (.int 0)])), []⟩
noncomputable def ty151 : TI := ⟨.struct [(0, 3), (1, 3), (2, 3), (3, 3)], 4, 32, (some (.agg [.int .i64 (.int 0), .int .i64 (.int 0), .int .i64 (.int 0), .int .i64 (.int 0)])), []⟩
noncomputable def ty160 : TI := ⟨.ptr 241, 1, 8, (some (.c (.nilp))), [("Done", some (109, true)), ("Step", some (108, true))]⟩
noncomputable def ty161 : TI := ⟨.struct [(0, 3), (1, 3), (2, 22), (3, 3), (4, 160), (5, 22), (6, 22), (7, 3), (8, 22), (9, 3), (10, 43)], 14, 112, (some (.agg [.int .i64 (.int 0), .int .i64 (.int 0), .int .u64 (.int 0), .int .i64 (.int 0), .nilp, .int .u64 (.int 0), .int .u64 (.int 0), .int .i64 (.int 0), .int .u64 (.int 0), .int .i64 (.int 0), .int .i64 (.int 0), .int .u64 (.int 0), .int .i64 (.int 0), .int .i64 (.int 0)])), []⟩
noncomputable def ty162 : TI := ⟨.struct [(0, 3), (1, 3), (2, 22), (3, 3), (4, 160), (5, 22), (6, 22), (7, 3), (8, 22), (9, 3), (10, 43)], 14, 112, (some (.agg [.int .i64 (.int 0), .int .i64 (.int 0), .int .u64 (.int 0), .int .i64 (.int 0), .nilp, .int .u64 (.int 0), .int .u64 (.int 0), .int .i64 (.int 0), .int .u64 (.int 0), .int .i64 (.int 0), .int .i64 (.int 0), .int .u64 (.int 0), .int .i64 (.int 0), .int .i64 (.int 0)])), []⟩
noncomputable def ty164 : TI := ⟨.struct [(0, 3), (1, 3), (2, 22), (3, 3), (4, 3), (5, 3), (6, 4)], 7, 56, (some (.agg [.int .i64 (.int 0), .int .i64 (.int 0), .int .u64 (.int 0), .int .i64 (.int 0), .int .i64 (.int 0), .int .i64 (.int 0), .bool (.bool false)])), []⟩
noncomputable def ty165 : TI := ⟨.struct [(0, 3), (1, 3), (2, 22), (3, 3), (4, 3), (5, 3), (6, 4)], 7, 56, (some (.agg [.int .i64 (.int 0), .int .i64 (.int 0), .int .u64 (.int 0), .int .i64 (.int 0), .int .i64 (.int 0), .int .i64 (.int 0), .bool (.bool false)])), []⟩
noncomputable def ty171 : TI := ⟨.struct [(0, 3), (1, 3)], 2, 16, (some (.agg [.int .i64 (.int 0), .int .i64 (.int 0)])), []⟩
noncomputable def ty172 : TI := ⟨.struct [(0, 3), (1, 3)], 2, 16, (some (.agg [.int .i64 (.int 0), .int .i64 (.int 0)])), []⟩
noncomputable def ty175 : TI := ⟨.struct [(0, 3), (1, 4), (2, 3)], 3, 24, (some (.agg [.int .i64 (.int 0), .bool (.bool false), .int .i64 (.int 0)])), []⟩
noncomputable def ty176 : TI := ⟨.struct [(0, 3), (1, 4), (2, 3)], 3, 24, (some (.agg [.int .i64 (.int 0), .bool (.bool false), .int .i64 (.int 0)])), []⟩
noncomputable def ty181 : TI := ⟨.slice 115, 1, 24, (some (.c (.nils))), []⟩
noncomputable def ty182 : TI := ⟨.ptr 253, 1, 8, (some (.c (.nilp))), [("Idle", some (169, true)), ("Step", some (122, true)), ("Work", some (126, true)), ("footlocker/compact.chunk", some (185, true)), ("footlocker/compact.look", some (183, true)), ("footlocker/compact.moved", some (188, true)), ("footlocker/compact.next", some (228, true)), ("footlocker/compact.rest", some (192, true)), ("footlocker/compact.walk", some (186, true))]⟩
noncomputable def ty183 : TI := ⟨.struct [(0, 77), (9, 35), (10, 98), (11, 181), (12, 182), (13, 109), (16, 3)], 17, 168, (some (.agg [.int .i64 (.int 0), .int .i64 (.int 0), .int .i64 (.int 0), .int .i64 (.int 0), .int .i64 (.int 0), .int .i64 (.int 0), .int .i64 (.int 0), .int .i64 (.int 0), .nils, .nilp, .nilp, .nils, .nilp, .int .i64 (.int 0), .int .i64 (.int 0), .int .i64 (.int 0), .int .i64 (.int 0)])), []⟩
noncomputable def ty184 : TI := ⟨.struct [(0, 77), (9, 35), (10, 98), (11, 181), (12, 182), (13, 109), (16, 3)], 17, 168, (some (.agg [.int .i64 (.int 0), .int .i64 (.int 0), .int .i64 (.int 0), .int .i64 (.int 0), .int .i64 (.int 0), .int .i64 (.int 0), .int .i64 (.int 0), .int .i64 (.int 0), .nils, .nilp, .nilp, .nils, .nilp, .int .i64 (.int 0), .int .i64 (.int 0), .int .i64 (.int 0), .int .i64 (.int 0)])), []⟩
noncomputable def ty190 : TI := ⟨.struct [(0, 104), (1, 47), (2, 3), (3, 3), (4, 90)], 7, 88, (some (.agg [.nils, .nils, .int .i64 (.int 0), .int .i64 (.int 0), .int .i64 (.int 0), .int .i64 (.int 0), .bool (.bool false)])), []⟩
noncomputable def ty191 : TI := ⟨.struct [(0, 104), (1, 47), (2, 3), (3, 3), (4, 90)], 7, 88, (some (.agg [.nils, .nils, .int .i64 (.int 0), .int .i64 (.int 0), .int .i64 (.int 0), .int .i64 (.int 0), .bool (.bool false)])), []⟩
noncomputable def ty192 : TI := ⟨.ptr 266, 1, 8, (some (.c (.nilp))), [("Do", some (195, true)), ("Keys", some (134, true)), ("Objects", some (137, true)), ("footlocker/model.alloc", some (248, true)), ("footlocker/model.key", some (251, true)), ("footlocker/model.word", some (250, true))]⟩
noncomputable def ty197 : TI := ⟨.struct [(0, 22), (1, 47)], 2, 32, (some (.agg [.int .u64 (.int 0), .nils])), []⟩
noncomputable def ty198 : TI := ⟨.struct [(0, 22), (1, 47)], 2, 32, (some (.agg [.int .u64 (.int 0), .nils])), []⟩
noncomputable def ty205 : TI := ⟨.struct [(0, 3), (1, 3), (2, 3), (3, 3), (4, 4)], 5, 40, (some (.agg [.int .i64 (.int 0), .int .i64 (.int 0), .int .i64 (.int 0), .int .i64 (.int 0), .bool (.bool false)])), []⟩
noncomputable def ty206 : TI := ⟨.struct [(0, 3), (1, 3), (2, 3), (3, 3), (4, 4)], 5, 40, (some (.agg [.int .i64 (.int 0), .int .i64 (.int 0), .int .i64 (.int 0), .int .i64 (.int 0), .bool (.bool false)])), []⟩
noncomputable def ty210 : TI := ⟨.struct [(0, 104)], 1, 24, (some (.agg [.nils])), []⟩
noncomputable def ty211 : TI := ⟨.struct [(0, 104)], 1, 24, (some (.agg [.nils])), []⟩
noncomputable def ty214 : TI := ⟨.ptr 284, 1, 8, (some (.c (.nilp))), [("Len", some (148, true)), ("Pop", some (214, true)), ("Push", some (146, true))]⟩
noncomputable def ty219 : TI := ⟨.iface, 1, 16, (some (.c (.niface))), []⟩
noncomputable def ty220 : TI := ⟨.iface, 1, 16, (some (.c (.niface))), []⟩
noncomputable def ty221 : TI := ⟨.struct [(0, 3), (1, 111), (2, 214), (3, 98), (4, 3), (5, 22), (6, 220), (7, 3), (8, 79)], 9, 112, (some (.agg [.int .i64 (.int 0), .nils, .nilp, .nilp, .int .i64 (.int 0), .int .u64 (.int 0), .niface, .int .i64 (.int 0), .nils])), []⟩
noncomputable def ty222 : TI := ⟨.struct [(0, 3), (1, 111), (2, 214), (3, 98), (4, 3), (5, 22), (6, 220), (7, 3), (8, 79)], 9, 112, (some (.agg [.int .i64 (.int 0), .nils, .nilp, .nilp, .int .i64 (.int 0), .int .u64 (.int 0), .niface, .int .i64 (.int 0), .nils])), []⟩
noncomputable def ty236 : TI := ⟨.iface, 1, 16, (some (.c (.niface))), []⟩
noncomputable def ty238 : TI := ⟨.struct [(0, 3), (1, 22)], 2, 16, (some (.agg [.int .i64 (.int 0), .int .u64 (.int 0)])), []⟩
noncomputable def ty239 : TI := ⟨.struct [(0, 3), (1, 22)], 2, 16, (some (.agg [.int .i64 (.int 0), .int .u64 (.int 0)])), []⟩
noncomputable def ty240 : TI := ⟨.struct [(0, 239), (2, 3), (3, 236), (4, 43)], 8, 72, (some (.agg [.int .i64 (.int 0), .int .u64 (.int 0), .int .i64 (.int 0), .niface, .int .i64 (.int 0), .int .u64 (.int 0), .int .i64 (.int 0), .int .i64 (.int 0)])), []⟩
noncomputable def ty241 : TI := ⟨.struct [(0, 239), (2, 3), (3, 236), (4, 43)], 8, 72, (some (.agg [.int .i64 (.int 0), .int .u64 (.int 0), .int .i64 (.int 0), .niface, .int .i64 (.int 0), .int .u64 (.int 0), .int .i64 (.int 0), .int .i64 (.int 0)])), []⟩
noncomputable def ty242 : TI := ⟨.struct [], 0, 0, (some (.agg [])), []⟩
noncomputable def ty243 : TI := ⟨.struct [], 0, 0, (some (.agg [])), [("Step", some (173, false))]⟩
noncomputable def ty246 : TI := ⟨.int .u64, 1, 8, (some (.c (.int .u64 (.int 0)))), []⟩
noncomputable def ty249 : TI := ⟨.ptr 310, 1, 8, (some (.c (.nilp))), [("Out", some (240, true)), ("Step", some (187, true)), ("footlocker/move.as", some (236, true)), ("footlocker/move.close", some (239, true)), ("footlocker/move.copied", some (234, true)), ("footlocker/move.end", some (233, true)), ("footlocker/move.see", some (230, true)), ("footlocker/move.show", some (238, true)), ("footlocker/move.slot", some (235, true))]⟩
noncomputable def ty250 : TI := ⟨.ptr 319, 1, 8, (some (.c (.nilp))), [("Step", some (242, true)), ("Went", some (339, true))]⟩
noncomputable def ty251 : TI := ⟨.ptr 346, 1, 8, (some (.c (.nilp))), [("Freed", some (245, true)), ("Step", some (244, true))]⟩
noncomputable def ty252 : TI := ⟨.struct [(0, 3), (1, 145), (2, 3), (3, 3), (4, 22), (5, 22), (6, 249), (7, 250), (8, 251), (9, 142), (14, 142), (19, 3)], 20, 176, (some (.agg [.int .i64 (.int 0), .nils, .int .i64 (.int 0), .int .i64 (.int 0), .int .u64 (.int 0), .int .u64 (.int 0), .nilp, .nilp, .nilp, .int .i64 (.int 0), .int .i64 (.int 0), .int .i64 (.int 0), .int .i64 (.int 0), .int .i64 (.int 0), .int .i64 (.int 0), .int .i64 (.int 0), .int .i64 (.int 0), .int .i64 (.int 0), .int .i64 (.int 0), .int .i64 (.int 0)])), []⟩
noncomputable def ty253 : TI := ⟨.struct [(0, 3), (1, 145), (2, 3), (3, 3), (4, 22), (5, 22), (6, 249), (7, 250), (8, 251), (9, 142), (14, 142), (19, 3)], 20, 176, (some (.agg [.int .i64 (.int 0), .nils, .int .i64 (.int 0), .int .i64 (.int 0), .int .u64 (.int 0), .int .u64 (.int 0), .nilp, .nilp, .nilp, .int .i64 (.int 0), .int .i64 (.int 0), .int .i64 (.int 0), .int .i64 (.int 0), .int .i64 (.int 0), .int .i64 (.int 0), .int .i64 (.int 0), .int .i64 (.int 0), .int .i64 (.int 0), .int .i64 (.int 0), .int .i64 (.int 0)])), []⟩
noncomputable def ty265 : TI := ⟨.struct [(0, 264), (1, 263)], 2, 16, none, []⟩
noncomputable def ty266 : TI := ⟨.struct [(0, 264), (1, 263)], 2, 16, none, []⟩
noncomputable def ty280 : TI := ⟨.int .u32, 1, 4, (some (.c (.int .u32 (.int 0)))), []⟩
noncomputable def ty283 : TI := ⟨.struct [(0, 282), (1, 3)], 2, 16, none, []⟩
noncomputable def ty284 : TI := ⟨.struct [(0, 282), (1, 3)], 2, 16, none, []⟩
noncomputable def ty290 : TI := ⟨.ptr 333, 1, 8, (some (.c (.nilp))), [("Done", some (340, true)), ("Step", some (341, true)), ("footlocker/alloc.end", some (343, true)), ("footlocker/alloc.head", some (342, true))]⟩
noncomputable def ty292 : TI := ⟨.ptr 336, 1, 8, (some (.c (.nilp))), [("Done", some (348, true)), ("Step", some (349, true)), ("footlocker/drop.claim", some (353, true)), ("footlocker/drop.invalid", some (351, true)), ("footlocker/drop.see", some (350, true))]⟩
noncomputable def ty294 : TI := ⟨.ptr 338, 1, 8, (some (.c (.nilp))), [("Done", some (357, true)), ("Step", some (358, true)), ("footlocker/access.at", some (359, true)), ("footlocker/access.check", some (362, true)), ("footlocker/access.end", some (360, true)), ("footlocker/access.next", some (361, true))]⟩
noncomputable def ty296 : TI := ⟨.struct [(0, 3), (1, 22), (2, 3), (3, 3), (4, 3)], 5, 40, (some (.agg [.int .i64 (.int 0), .int .u64 (.int 0), .int .i64 (.int 0), .int .i64 (.int 0), .int .i64 (.int 0)])), []⟩
noncomputable def ty297 : TI := ⟨.struct [(0, 3), (1, 22), (2, 3), (3, 3), (4, 3)], 5, 40, (some (.agg [.int .i64 (.int 0), .int .u64 (.int 0), .int .i64 (.int 0), .int .i64 (.int 0), .int .i64 (.int 0)])), []⟩
noncomputable def ty298 : TI := ⟨.ptr 239, 1, 8, (some (.c (.nilp))), [("Step", some (172, true))]⟩
noncomputable def ty306 : TI := ⟨.ptr 341, 1, 8, (some (.c (.nilp))), [("Spot", some (232, true)), ("Step", some (231, true)), ("footlocker/place.fresh", some (266, true)), ("footlocker/place.get", some (264, true)), ("footlocker/place.on", some (265, true))]⟩
noncomputable def ty307 : TI := ⟨.struct [(0, 3), (1, 3)], 2, 16, (some (.agg [.int .i64 (.int 0), .int .i64 (.int 0)])), []⟩
noncomputable def ty308 : TI := ⟨.struct [(0, 3), (1, 3)], 2, 16, (some (.agg [.int .i64 (.int 0), .int .i64 (.int 0)])), []⟩
noncomputable def ty309 : TI := ⟨.struct [(0, 3), (1, 206), (6, 3), (7, 22), (8, 306), (9, 308), (11, 4), (12, 3), (13, 22), (14, 3), (15, 3)], 16, 128, (some (.agg [.int .i64 (.int 0), .int .i64 (.int 0), .int .i64 (.int 0), .int .i64 (.int 0), .int .i64 (.int 0), .bool (.bool false), .int .i64 (.int 0), .int .u64 (.int 0), .nilp, .int .i64 (.int 0), .int .i64 (.int 0), .bool (.bool false), .int .i64 (.int 0), .int .u64 (.int 0), .int .i64 (.int 0), .int .i64 (.int 0)])), []⟩
noncomputable def ty310 : TI := ⟨.struct [(0, 3), (1, 206), (6, 3), (7, 22), (8, 306), (9, 308), (11, 4), (12, 3), (13, 22), (14, 3), (15, 3)], 16, 128, (some (.agg [.int .i64 (.int 0), .int .i64 (.int 0), .int .i64 (.int 0), .int .i64 (.int 0), .int .i64 (.int 0), .bool (.bool false), .int .i64 (.int 0), .int .u64 (.int 0), .nilp, .int .i64 (.int 0), .int .i64 (.int 0), .bool (.bool false), .int .i64 (.int 0), .int .u64 (.int 0), .int .i64 (.int 0), .int .i64 (.int 0)])), []⟩
noncomputable def ty318 : TI := ⟨.struct [(0, 3), (1, 22), (2, 3), (3, 4)], 4, 32, (some (.agg [.int .i64 (.int 0), .int .u64 (.int 0), .int .i64 (.int 0), .bool (.bool false)])), []⟩
noncomputable def ty319 : TI := ⟨.struct [(0, 3), (1, 22), (2, 3), (3, 4)], 4, 32, (some (.agg [.int .i64 (.int 0), .int .u64 (.int 0), .int .i64 (.int 0), .bool (.bool false)])), []⟩
noncomputable def ty329 : TI := ⟨.struct [(0, 3), (1, 22), (2, 3), (3, 3), (4, 4)], 5, 40, (some (.agg [.int .i64 (.int 0), .int .u64 (.int 0), .int .i64 (.int 0), .int .i64 (.int 0), .bool (.bool false)])), []⟩
noncomputable def ty330 : TI := ⟨.struct [(0, 3), (1, 22), (2, 3), (3, 3), (4, 4)], 5, 40, (some (.agg [.int .i64 (.int 0), .int .u64 (.int 0), .int .i64 (.int 0), .int .i64 (.int 0), .bool (.bool false)])), []⟩
noncomputable def ty331 : TI := ⟨.ptr 406, 1, 8, (some (.c (.nilp))), [("Step", some (347, true))]⟩
noncomputable def ty332 : TI := ⟨.struct [(0, 3), (1, 4), (2, 3), (3, 330), (8, 3), (9, 3), (10, 306), (11, 308), (13, 331), (14, 43)], 18, 144, (some (.agg [.int .i64 (.int 0), .bool (.bool false), .int .i64 (.int 0), .int .i64 (.int 0), .int .u64 (.int 0), .int .i64 (.int 0), .int .i64 (.int 0), .bool (.bool false), .int .i64 (.int 0), .int .i64 (.int 0), .nilp, .int .i64 (.int 0), .int .i64 (.int 0), .nilp, .int .i64 (.int 0), .int .u64 (.int 0), .int .i64 (.int 0), .int .i64 (.int 0)])), []⟩
noncomputable def ty333 : TI := ⟨.struct [(0, 3), (1, 4), (2, 3), (3, 330), (8, 3), (9, 3), (10, 306), (11, 308), (13, 331), (14, 43)], 18, 144, (some (.agg [.int .i64 (.int 0), .bool (.bool false), .int .i64 (.int 0), .int .i64 (.int 0), .int .u64 (.int 0), .int .i64 (.int 0), .int .i64 (.int 0), .bool (.bool false), .int .i64 (.int 0), .int .i64 (.int 0), .nilp, .int .i64 (.int 0), .int .i64 (.int 0), .nilp, .int .i64 (.int 0), .int .u64 (.int 0), .int .i64 (.int 0), .int .i64 (.int 0)])), []⟩
noncomputable def ty334 : TI := ⟨.ptr 410, 1, 8, (some (.c (.nilp))), [("Step", some (354, true)), ("Won", some (363, true))]⟩
noncomputable def ty335 : TI := ⟨.struct [(0, 22), (1, 4), (2, 172), (4, 3), (5, 22), (6, 3), (7, 334), (8, 331), (9, 43)], 13, 104, (some (.agg [.int .u64 (.int 0), .bool (.bool false), .int .i64 (.int 0), .int .i64 (.int 0), .int .i64 (.int 0), .int .u64 (.int 0), .int .i64 (.int 0), .nilp, .nilp, .int .i64 (.int 0), .int .u64 (.int 0), .int .i64 (.int 0), .int .i64 (.int 0)])), []⟩
noncomputable def ty336 : TI := ⟨.struct [(0, 22), (1, 4), (2, 172), (4, 3), (5, 22), (6, 3), (7, 334), (8, 331), (9, 43)], 13, 104, (some (.agg [.int .u64 (.int 0), .bool (.bool false), .int .i64 (.int 0), .int .i64 (.int 0), .int .i64 (.int 0), .int .u64 (.int 0), .int .i64 (.int 0), .nilp, .nilp, .int .i64 (.int 0), .int .u64 (.int 0), .int .i64 (.int 0), .int .i64 (.int 0)])), []⟩
noncomputable def ty337 : TI := ⟨.struct [(0, 297), (5, 4), (6, 172), (8, 3), (9, 22), (10, 22), (11, 3), (12, 3), (13, 3), (14, 334), (15, 43)], 19, 152, (some (.agg [.int .i64 (.int 0), .int .u64 (.int 0), .int .i64 (.int 0), .int .i64 (.int 0), .int .i64 (.int 0), .bool (.bool false), .int .i64 (.int 0), .int .i64 (.int 0), .int .i64 (.int 0), .int .u64 (.int 0), .int .u64 (.int 0), .int .i64 (.int 0), .int .i64 (.int 0), .int .i64 (.int 0), .nilp, .int .i64 (.int 0), .int .u64 (.int 0), .int .i64 (.int 0), .int .i64 (.int 0)])), []⟩
noncomputable def ty338 : TI := ⟨.struct [(0, 297), (5, 4), (6, 172), (8, 3), (9, 22), (10, 22), (11, 3), (12, 3), (13, 3), (14, 334), (15, 43)], 19, 152, (some (.agg [.int .i64 (.int 0), .int .u64 (.int 0), .int .i64 (.int 0), .int .i64 (.int 0), .int .i64 (.int 0), .bool (.bool false), .int .i64 (.int 0), .int .i64 (.int 0), .int .i64 (.int 0), .int .u64 (.int 0), .int .u64 (.int 0), .int .i64 (.int 0), .int .i64 (.int 0), .int .i64 (.int 0), .nilp, .int .i64 (.int 0), .int .u64 (.int 0), .int .i64 (.int 0), .int .i64 (.int 0)])), []⟩
noncomputable def ty340 : TI := ⟨.struct [(0, 3), (1, 3), (2, 22), (3, 3), (4, 22), (5, 308), (7, 4)], 8, 64, (some (.agg [.int .i64 (.int 0), .int .i64 (.int 0), .int .u64 (.int 0), .int .i64 (.int 0), .int .u64 (.int 0), .int .i64 (.int 0), .int .i64 (.int 0), .bool (.bool false)])), []⟩
noncomputable def ty341 : TI := ⟨.struct [(0, 3), (1, 3), (2, 22), (3, 3), (4, 22), (5, 308), (7, 4)], 8, 64, (some (.agg [.int .i64 (.int 0), .int .i64 (.int 0), .int .u64 (.int 0), .int .i64 (.int 0), .int .u64 (.int 0), .int .i64 (.int 0), .int .i64 (.int 0), .bool (.bool false)])), []⟩
noncomputable def ty345 : TI := ⟨.struct [(0, 3), (1, 3), (2, 22), (3, 22), (4, 3), (5, 4)], 6, 48, (some (.agg [.int .i64 (.int 0), .int .i64 (.int 0), .int .u64 (.int 0), .int .u64 (.int 0), .int .i64 (.int 0), .bool (.bool false)])), []⟩
noncomputable def ty346 : TI := ⟨.struct [(0, 3), (1, 3), (2, 22), (3, 22), (4, 3), (5, 4)], 6, 48, (some (.agg [.int .i64 (.int 0), .int .i64 (.int 0), .int .u64 (.int 0), .int .u64 (.int 0), .int .i64 (.int 0), .bool (.bool false)])), []⟩
noncomputable def ty351 : TI := ⟨.int .i64, 1, 8, (some (.c (.int .i64 (.int 0)))), []⟩
noncomputable def ty369 : TI := ⟨.int .u64, 1, 8, (some (.c (.int .u64 (.int 0)))), []⟩
noncomputable def ty372 : TI := ⟨.ptr 3, 1, 8, (some (.c (.nilp))), []⟩
noncomputable def ty382 : TI := ⟨.ptr 369, 1, 8, (some (.c (.nilp))), [("Next", some (299, true))]⟩
noncomputable def ty389 : TI := ⟨.struct [(0, 17), (1, 17), (2, 17), (3, 9)], 4, 40, none, []⟩
noncomputable def ty390 : TI := ⟨.struct [(0, 17), (1, 17), (2, 17), (3, 9)], 4, 40, none, []⟩
noncomputable def ty391 : TI := ⟨.array 0 16, 0, 0, (some (.agg [])), []⟩
noncomputable def ty392 : TI := ⟨.struct [(0, 391)], 0, 0, (some (.agg [])), []⟩
noncomputable def ty393 : TI := ⟨.struct [(0, 391)], 0, 0, (some (.agg [])), []⟩
noncomputable def ty394 : TI := ⟨.int .u8, 1, 1, (some (.c (.int .u8 (.int 0)))), []⟩
noncomputable def ty395 : TI := ⟨.int .u8, 1, 1, (some (.c (.int .u8 (.int 0)))), [("String", some (364, false))]⟩
noncomputable def ty397 : TI := ⟨.ptr 5, 1, 8, (some (.c (.nilp))), []⟩
noncomputable def ty398 : TI := ⟨.int .i32, 1, 4, (some (.c (.int .i32 (.int 0)))), []⟩
noncomputable def ty399 : TI := ⟨.int .i32, 1, 4, (some (.c (.int .i32 (.int 0)))), []⟩
noncomputable def ty400 : TI := ⟨.struct [(0, 12), (1, 12), (2, 280), (3, 394), (4, 5), (5, 5), (6, 395), (7, 396), (8, 397), (9, 398), (10, 399)], 11, 48, none, []⟩
noncomputable def ty401 : TI := ⟨.struct [(0, 12), (1, 12), (2, 280), (3, 394), (4, 5), (5, 5), (6, 395), (7, 396), (8, 397), (9, 398), (10, 399)], 11, 48, none, []⟩
noncomputable def ty404 : TI := ⟨.ptr 330, 1, 8, (some (.c (.nilp))), [("Slot", some (345, true)), ("Step", some (344, true))]⟩
noncomputable def ty405 : TI := ⟨.struct [(0, 3), (1, 3), (2, 22)], 3, 24, (some (.agg [.int .i64 (.int 0), .int .i64 (.int 0), .int .u64 (.int 0)])), []⟩
noncomputable def ty406 : TI := ⟨.struct [(0, 3), (1, 3), (2, 22)], 3, 24, (some (.agg [.int .i64 (.int 0), .int .i64 (.int 0), .int .u64 (.int 0)])), []⟩
noncomputable def ty409 : TI := ⟨.struct [(0, 3), (1, 22), (2, 3), (3, 3), (4, 22), (5, 4), (6, 4)], 7, 48, (some (.agg [.int .i64 (.int 0), .int .u64 (.int 0), .int .i64 (.int 0), .int .i64 (.int 0), .int .u64 (.int 0), .bool (.bool false), .bool (.bool false)])), []⟩
noncomputable def ty410 : TI := ⟨.struct [(0, 3), (1, 22), (2, 3), (3, 3), (4, 22), (5, 4), (6, 4)], 7, 48, (some (.agg [.int .i64 (.int 0), .int .u64 (.int 0), .int .i64 (.int 0), .int .i64 (.int 0), .int .u64 (.int 0), .bool (.bool false), .bool (.bool false)])), []⟩
noncomputable def tyTree : Tr TI := (.node (.node (.node (.node (.node (.node (.node (.node .leaf 2 ty2 .leaf) 3 ty3 .leaf) 4 ty4 (.node (.node .leaf 5 ty5 .leaf) 6 ty6 .leaf)) 7 ty7 (.node (.node (.node .leaf 8 ty8 .leaf) 12 ty12 .leaf) 13 ty13 (.node .leaf 14 ty14 .leaf))) 15 ty15 (.node (.node (.node (.node .leaf 16 ty16 .leaf) 17 ty17 .leaf) 18 ty18 (.node (.node .leaf 19 ty19 .leaf) 20 ty20 .leaf)) 21 ty21 (.node (.node (.node .leaf 22 ty22 .leaf) 23 ty23 .leaf) 24 ty24 (.node .leaf 29 ty29 .leaf)))) 30 ty30 (.node (.node (.node (.node (.node .leaf 33 ty33 .leaf) 34 ty34 .leaf) 35 ty35 (.node (.node .leaf 36 ty36 .leaf) 37 ty37 .leaf)) 42 ty42 (.node (.node (.node .leaf 43 ty43 .leaf) 47 ty47 .leaf) 48 ty48 (.node .leaf 49 ty49 .leaf))) 52 ty52 (.node (.node (.node (.node .leaf 53 ty53 .leaf) 54 ty54 .leaf) 55 ty55 (.node .leaf 58 ty58 .leaf)) 59 ty59 (.node (.node (.node .leaf 60 ty60 .leaf) 61 ty61 .leaf) 62 ty62 (.node .leaf 63 ty63 .leaf))))) 69 ty69 (.node (.node (.node (.node (.node (.node .leaf 70 ty70 .leaf) 71 ty71 .leaf) 72 ty72 (.node (.node .leaf 76 ty76 .leaf) 77 ty77 .leaf)) 79 ty79 (.node (.node (.node .leaf 81 ty81 .leaf) 82 ty82 .leaf) 83 ty83 (.node .leaf 84 ty84 .leaf))) 85 ty85 (.node (.node (.node (.node .leaf 86 ty86 .leaf) 89 ty89 .leaf) 90 ty90 (.node .leaf 98 ty98 .leaf)) 104 ty104 (.node (.node (.node .leaf 108 ty108 .leaf) 109 ty109 .leaf) 111 ty111 (.node .leaf 115 ty115 .leaf)))) 120 ty120 (.node (.node (.node (.node (.node .leaf 121 ty121 .leaf) 122 ty122 .leaf) 135 ty135 (.node (.node .leaf 136 ty136 .leaf) 141 ty141 .leaf)) 142 ty142 (.node (.node (.node .leaf 145 ty145 .leaf) 148 ty148 .leaf) 149 ty149 (.node .leaf 150 ty150 .leaf))) 151 ty151 (.node (.node (.node (.node .leaf 160 ty160 .leaf) 161 ty161 .leaf) 162 ty162 (.node .leaf 164 ty164 .leaf)) 165 ty165 (.node (.node (.node .leaf 171 ty171 .leaf) 172 ty172 .leaf) 175 ty175 (.node .leaf 176 ty176 .leaf)))))) 181 ty181 (.node (.node (.node (.node (.node (.node (.node .leaf 182 ty182 .leaf) 183 ty183 .leaf) 184 ty184 (.node (.node .leaf 190 ty190 .leaf) 191 ty191 .leaf)) 192 ty192 (.node (.node (.node .leaf 197 ty197 .leaf) 198 ty198 .leaf) 205 ty205 (.node .leaf 206 ty206 .leaf))) 210 ty210 (.node (.node (.node (.node .leaf 211 ty211 .leaf) 214 ty214 .leaf) 219 ty219 (.node .leaf 220 ty220 .leaf)) 221 ty221 (.node (.node (.node .leaf 222 ty222 .leaf) 236 ty236 .leaf) 238 ty238 (.node .leaf 239 ty239 .leaf)))) 240 ty240 (.node (.node (.node (.node (.node .leaf 241 ty241 .leaf) 242 ty242 .leaf) 243 ty243 (.node (.node .leaf 246 ty246 .leaf) 249 ty249 .leaf)) 250 ty250 (.node (.node (.node .leaf 251 ty251 .leaf) 252 ty252 .leaf) 253 ty253 (.node .leaf 265 ty265 .leaf))) 266 ty266 (.node (.node (.node (.node .leaf 280 ty280 .leaf) 283 ty283 .leaf) 284 ty284 (.node .leaf 290 ty290 .leaf)) 292 ty292 (.node (.node (.node .leaf 294 ty294 .leaf) 296 ty296 .leaf) 297 ty297 (.node .leaf 298 ty298 .leaf))))) 306 ty306 (.node (.node (.node (.node (.node (.node .leaf 307 ty307 .leaf) 308 ty308 .leaf) 309 ty309 (.node (.node .leaf 310 ty310 .leaf) 318 ty318 .leaf)) 319 ty319 (.node (.node (.node .leaf 329 ty329 .leaf) 330 ty330 .leaf) 331 ty331 (.node .leaf 332 ty332 .leaf))) 333 ty333 (.node (.node (.node (.node .leaf 334 ty334 .leaf) 335 ty335 .leaf) 336 ty336 (.node .leaf 337 ty337 .leaf)) 338 ty338 (.node (.node (.node .leaf 340 ty340 .leaf) 341 ty341 .leaf) 345 ty345 (.node .leaf 346 ty346 .leaf)))) 351 ty351 (.node (.node (.node (.node (.node .leaf 369 ty369 .leaf) 372 ty372 .leaf) 382 ty382 (.node (.node .leaf 389 ty389 .leaf) 390 ty390 .leaf)) 391 ty391 (.node (.node (.node .leaf 392 ty392 .leaf) 393 ty393 .leaf) 394 ty394 (.node .leaf 395 ty395 .leaf))) 397 ty397 (.node (.node (.node (.node .leaf 398 ty398 .leaf) 399 ty399 .leaf) 400 ty400 (.node .leaf 401 ty401 .leaf)) 404 ty404 (.node (.node (.node .leaf 405 ty405 .leaf) 406 ty406 .leaf) 409 ty409 (.node .leaf 410 ty410 .leaf)))))))

noncomputable def fnTree : Tr Func := (.node (.node (.node (.node (.node (.node (.node (.node (.node .leaf 2 Tryz.f2 .leaf) 3 Tryz.f3 .leaf) 4 Tryz.f4 (.node (.node .leaf 5 Tryz.f5 .leaf) 6 Tryz.f6 .leaf)) 7 Tryz.f7 (.node (.node (.node .leaf 8 Tryz.f8 .leaf) 9 Tryz.f9 .leaf) 10 Tryz.f10 (.node .leaf 11 Tryz.f11 .leaf))) 12 Tryz.f12 (.node (.node (.node (.node .leaf 13 Tryz.f13 .leaf) 14 Tryz.f14 .leaf) 15 Tryz.f15 (.node (.node .leaf 16 Tryz.f16 .leaf) 17 Tryz.f17 .leaf)) 18 Tryz.f18 (.node (.node (.node .leaf 19 Tryz.f19 .leaf) 20 Tryz.f20 .leaf) 21 Tryz.f21 (.node .leaf 22 Tryz.f22 .leaf)))) 23 Tryz.f23 (.node (.node (.node (.node (.node .leaf 24 Tryz.f24 .leaf) 25 Tryz.f25 .leaf) 26 Tryz.f26 (.node (.node .leaf 27 Tryz.f27 .leaf) 28 Tryz.f28 .leaf)) 29 Tryz.f29 (.node (.node (.node .leaf 30 Tryz.f30 .leaf) 31 Tryz.f31 .leaf) 32 Tryz.f32 (.node .leaf 33 Tryz.f33 .leaf))) 34 Tryz.f34 (.node (.node (.node (.node .leaf 35 Tryz.f35 .leaf) 36 Tryz.f36 .leaf) 37 Tryz.f37 (.node (.node .leaf 38 Tryz.f38 .leaf) 39 Tryz.f39 .leaf)) 40 Tryz.f40 (.node (.node (.node .leaf 41 Tryz.f41 .leaf) 42 Tryz.f42 .leaf) 43 Tryz.f43 (.node .leaf 44 Tryz.f44 .leaf))))) 45 Tryz.f45 (.node (.node (.node (.node (.node (.node .leaf 46 Tryz.f46 .leaf) 47 Tryz.f47 .leaf) 48 Tryz.f48 (.node (.node .leaf 49 Tryz.f49 .leaf) 50 Tryz.f50 .leaf)) 51 Tryz.f51 (.node (.node (.node .leaf 52 Tryz.f52 .leaf) 53 Tryz.f53 .leaf) 54 Tryz.f54 (.node .leaf 55 Tryz.f55 .leaf))) 56 Tryz.f56 (.node (.node (.node (.node .leaf 57 Tryz.f57 .leaf) 58 Tryz.f58 .leaf) 59 Tryz.f59 (.node (.node .leaf 60 Tryz.f60 .leaf) 61 Tryz.f61 .leaf)) 62 Tryz.f62 (.node (.node (.node .leaf 63 Tryz.f63 .leaf) 64 Tryz.f64 .leaf) 65 Tryz.f65 (.node .leaf 66 Tryz.f66 .leaf)))) 67 Tryz.f67 (.node (.node (.node (.node (.node .leaf 68 Tryz.f68 .leaf) 69 Tryz.f69 .leaf) 70 Tryz.f70 (.node (.node .leaf 71 Tryz.f71 .leaf) 72 Tryz.f72 .leaf)) 73 Tryz.f73 (.node (.node (.node .leaf 74 Tryz.f74 .leaf) 75 Tryz.f75 .leaf) 76 Tryz.f76 (.node .leaf 77 Tryz.f77 .leaf))) 78 Tryz.f78 (.node (.node (.node (.node .leaf 79 Tryz.f79 .leaf) 80 Tryz.f80 .leaf) 81 Tryz.f81 (.node .leaf 82 Tryz.f82 .leaf)) 83 Tryz.f83 (.node (.node (.node .leaf 84 Tryz.f84 .leaf) 85 Tryz.f85 .leaf) 86 Tryz.f86 (.node .leaf 87 Tryz.f87 .leaf)))))) 88 Tryz.f88 (.node (.node (.node (.node (.node (.node (.node .leaf 89 Tryz.f89 .leaf) 90 Tryz.f90 .leaf) 91 Tryz.f91 (.node (.node .leaf 92 Tryz.f92 .leaf) 93 Tryz.f93 .leaf)) 94 Tryz.f94 (.node (.node (.node .leaf 95 Tryz.f95 .leaf) 96 Tryz.f96 .leaf) 97 Tryz.f97 (.node .leaf 98 Tryz.f98 .leaf))) 99 Tryz.f99 (.node (.node (.node (.node .leaf 100 Tryz.f100 .leaf) 101 Tryz.f101 .leaf) 102 Tryz.f102 (.node (.node .leaf 103 Tryz.f103 .leaf) 104 Tryz.f104 .leaf)) 105 Tryz.f105 (.node (.node (.node .leaf 106 Tryz.f106 .leaf) 107 Tryz.f107 .leaf) 108 Tryz.f108 (.node .leaf 109 Tryz.f109 .leaf)))) 110 Tryz.f110 (.node (.node (.node (.node (.node .leaf 111 Tryz.f111 .leaf) 112 Tryz.f112 .leaf) 113 Tryz.f113 (.node (.node .leaf 114 Tryz.f114 .leaf) 115 Tryz.f115 .leaf)) 116 Tryz.f116 (.node (.node (.node .leaf 117 Tryz.f117 .leaf) 118 Tryz.f118 .leaf) 119 Tryz.f119 (.node .leaf 120 Tryz.f120 .leaf))) 121 Tryz.f121 (.node (.node (.node (.node .leaf 122 Tryz.f122 .leaf) 123 Tryz.f123 .leaf) 124 Tryz.f124 (.node .leaf 125 Tryz.f125 .leaf)) 126 Tryz.f126 (.node (.node (.node .leaf 127 Tryz.f127 .leaf) 128 Tryz.f128 .leaf) 129 Tryz.f129 (.node .leaf 130 Tryz.f130 .leaf))))) 131 Tryz.f131 (.node (.node (.node (.node (.node (.node .leaf 132 Tryz.f132 .leaf) 133 Tryz.f133 .leaf) 134 Tryz.f134 (.node (.node .leaf 135 Tryz.f135 .leaf) 136 Tryz.f136 .leaf)) 137 Tryz.f137 (.node (.node (.node .leaf 138 Tryz.f138 .leaf) 139 Tryz.f139 .leaf) 140 Tryz.f140 (.node .leaf 141 Tryz.f141 .leaf))) 142 Tryz.f142 (.node (.node (.node (.node .leaf 143 Tryz.f143 .leaf) 144 Tryz.f144 .leaf) 145 Tryz.f145 (.node (.node .leaf 146 Tryz.f146 .leaf) 147 Tryz.f147 .leaf)) 148 Tryz.f148 (.node (.node (.node .leaf 149 Tryz.f149 .leaf) 150 Tryz.f150 .leaf) 151 Tryz.f151 (.node .leaf 152 Tryz.f152 .leaf)))) 153 Tryz.f153 (.node (.node (.node (.node (.node .leaf 154 Tryz.f154 .leaf) 155 Tryz.f155 .leaf) 156 Tryz.f156 (.node (.node .leaf 157 Tryz.f157 .leaf) 158 Tryz.f158 .leaf)) 159 Tryz.f159 (.node (.node (.node .leaf 160 Tryz.f160 .leaf) 161 Tryz.f161 .leaf) 162 Tryz.f162 (.node .leaf 163 Tryz.f163 .leaf))) 164 Tryz.f164 (.node (.node (.node (.node .leaf 165 Tryz.f165 .leaf) 166 Tryz.f166 .leaf) 167 Tryz.f167 (.node .leaf 168 Tryz.f168 .leaf)) 169 Tryz.f169 (.node (.node (.node .leaf 170 Tryz.f170 .leaf) 171 Tryz.f171 .leaf) 172 Tryz.f172 (.node .leaf 173 Tryz.f173 .leaf))))))) 174 Tryz.f174 (.node (.node (.node (.node (.node (.node (.node (.node .leaf 175 Tryz.f175 .leaf) 176 Tryz.f176 .leaf) 177 Tryz.f177 (.node (.node .leaf 178 Tryz.f178 .leaf) 179 Tryz.f179 .leaf)) 180 Tryz.f180 (.node (.node (.node .leaf 181 Tryz.f181 .leaf) 182 Tryz.f182 .leaf) 183 Tryz.f183 (.node .leaf 184 Tryz.f184 .leaf))) 185 Tryz.f185 (.node (.node (.node (.node .leaf 186 Tryz.f186 .leaf) 187 Tryz.f187 .leaf) 188 Tryz.f188 (.node (.node .leaf 189 Tryz.f189 .leaf) 190 Tryz.f190 .leaf)) 191 Tryz.f191 (.node (.node (.node .leaf 192 Tryz.f192 .leaf) 193 Tryz.f193 .leaf) 194 Tryz.f194 (.node .leaf 195 Tryz.f195 .leaf)))) 196 Tryz.f196 (.node (.node (.node (.node (.node .leaf 197 Tryz.f197 .leaf) 198 Tryz.f198 .leaf) 199 Tryz.f199 (.node (.node .leaf 200 Tryz.f200 .leaf) 201 Tryz.f201 .leaf)) 202 Tryz.f202 (.node (.node (.node .leaf 203 Tryz.f203 .leaf) 204 Tryz.f204 .leaf) 205 Tryz.f205 (.node .leaf 206 Tryz.f206 .leaf))) 207 Tryz.f207 (.node (.node (.node (.node .leaf 208 Tryz.f208 .leaf) 209 Tryz.f209 .leaf) 210 Tryz.f210 (.node (.node .leaf 211 Tryz.f211 .leaf) 212 Tryz.f212 .leaf)) 213 Tryz.f213 (.node (.node (.node .leaf 214 Tryz.f214 .leaf) 215 Tryz.f215 .leaf) 216 Tryz.f216 (.node .leaf 217 Tryz.f217 .leaf))))) 218 Tryz.f218 (.node (.node (.node (.node (.node (.node .leaf 219 Tryz.f219 .leaf) 220 Tryz.f220 .leaf) 221 Tryz.f221 (.node (.node .leaf 222 Tryz.f222 .leaf) 223 Tryz.f223 .leaf)) 224 Tryz.f224 (.node (.node (.node .leaf 225 Tryz.f225 .leaf) 226 Tryz.f226 .leaf) 227 Tryz.f227 (.node .leaf 228 Tryz.f228 .leaf))) 229 Tryz.f229 (.node (.node (.node (.node .leaf 230 Tryz.f230 .leaf) 231 Tryz.f231 .leaf) 232 Tryz.f232 (.node (.node .leaf 233 Tryz.f233 .leaf) 234 Tryz.f234 .leaf)) 235 Tryz.f235 (.node (.node (.node .leaf 236 Tryz.f236 .leaf) 237 Tryz.f237 .leaf) 238 Tryz.f238 (.node .leaf 239 Tryz.f239 .leaf)))) 240 Tryz.f240 (.node (.node (.node (.node (.node .leaf 241 Tryz.f241 .leaf) 242 Tryz.f242 .leaf) 243 Tryz.f243 (.node (.node .leaf 244 Tryz.f244 .leaf) 245 Tryz.f245 .leaf)) 246 Tryz.f246 (.node (.node (.node .leaf 247 Tryz.f247 .leaf) 248 Tryz.f248 .leaf) 249 Tryz.f249 (.node .leaf 250 Tryz.f250 .leaf))) 251 Tryz.f251 (.node (.node (.node (.node .leaf 252 Tryz.f252 .leaf) 253 Tryz.f253 .leaf) 254 Tryz.f254 (.node .leaf 255 Tryz.f255 .leaf)) 256 Tryz.f256 (.node (.node (.node .leaf 257 Tryz.f257 .leaf) 258 Tryz.f258 .leaf) 259 Tryz.f259 (.node .leaf 260 Tryz.f260 .leaf)))))) 261 Tryz.f261 (.node (.node (.node (.node (.node (.node (.node .leaf 262 Tryz.f262 .leaf) 263 Tryz.f263 .leaf) 264 Tryz.f264 (.node (.node .leaf 265 Tryz.f265 .leaf) 266 Tryz.f266 .leaf)) 267 Tryz.f267 (.node (.node (.node .leaf 268 Tryz.f268 .leaf) 269 Tryz.f269 .leaf) 270 Tryz.f270 (.node .leaf 271 Tryz.f271 .leaf))) 272 Tryz.f272 (.node (.node (.node (.node .leaf 273 Tryz.f273 .leaf) 274 Tryz.f274 .leaf) 275 Tryz.f275 (.node (.node .leaf 276 Tryz.f276 .leaf) 277 Tryz.f277 .leaf)) 278 Tryz.f278 (.node (.node (.node .leaf 279 Tryz.f279 .leaf) 280 Tryz.f280 .leaf) 281 Tryz.f281 (.node .leaf 282 Tryz.f282 .leaf)))) 283 Tryz.f283 (.node (.node (.node (.node (.node .leaf 284 Tryz.f284 .leaf) 285 Tryz.f285 .leaf) 286 Tryz.f286 (.node (.node .leaf 287 Tryz.f287 .leaf) 288 Tryz.f288 .leaf)) 289 Tryz.f289 (.node (.node (.node .leaf 290 Tryz.f290 .leaf) 291 Tryz.f291 .leaf) 292 Tryz.f292 (.node .leaf 293 Tryz.f293 .leaf))) 294 Tryz.f294 (.node (.node (.node (.node .leaf 295 Tryz.f295 .leaf) 296 Tryz.f296 .leaf) 297 Tryz.f297 (.node .leaf 298 Tryz.f298 .leaf)) 299 Tryz.f299 (.node (.node (.node .leaf 300 Tryz.f300 .leaf) 301 Tryz.f301 .leaf) 302 Tryz.f302 (.node .leaf 303 Tryz.f303 .leaf))))) 304 Tryz.f304 (.node (.node (.node (.node (.node (.node .leaf 305 Tryz.f305 .leaf) 306 Tryz.f306 .leaf) 307 Tryz.f307 (.node (.node .leaf 308 Tryz.f308 .leaf) 309 Tryz.f309 .leaf)) 310 Tryz.f310 (.node (.node (.node .leaf 311 Tryz.f311 .leaf) 312 Tryz.f312 .leaf) 313 Tryz.f313 (.node .leaf 314 Tryz.f314 .leaf))) 315 Tryz.f315 (.node (.node (.node (.node .leaf 316 Tryz.f316 .leaf) 317 Tryz.f317 .leaf) 318 Tryz.f318 (.node (.node .leaf 319 Tryz.f319 .leaf) 320 Tryz.f320 .leaf)) 321 Tryz.f321 (.node (.node (.node .leaf 322 Tryz.f322 .leaf) 323 Tryz.f323 .leaf) 340 Tryz.f340 (.node .leaf 341 Tryz.f341 .leaf)))) 342 Tryz.f342 (.node (.node (.node (.node (.node .leaf 343 Tryz.f343 .leaf) 344 Tryz.f344 .leaf) 345 Tryz.f345 (.node (.node .leaf 346 Tryz.f346 .leaf) 347 Tryz.f347 .leaf)) 348 Tryz.f348 (.node (.node (.node .leaf 349 Tryz.f349 .leaf) 350 Tryz.f350 .leaf) 351 Tryz.f351 (.node .leaf 352 Tryz.f352 .leaf))) 353 Tryz.f353 (.node (.node (.node (.node .leaf 354 Tryz.f354 .leaf) 355 Tryz.f355 .leaf) 356 Tryz.f356 (.node .leaf 357 Tryz.f357 .leaf)) 358 Tryz.f358 (.node (.node (.node .leaf 359 Tryz.f359 .leaf) 360 Tryz.f360 .leaf) 361 Tryz.f361 (.node .leaf 362 Tryz.f362 .leaf))))))))

def fiOf (fn : Func) : Option FI := match fn.body with | some b => some ⟨fn.ntmps, fn.results.toList, b⟩ | none => none
def eqTab : List Nat := [7, 8, 23, 24, 33, 34, 42, 43, 54, 55, 81, 82, 89, 90, 108, 109, 135, 136, 141, 142, 150, 151, 164, 165, 171, 172, 175, 176, 205, 206, 238, 239, 296, 297, 307, 308, 318, 319, 329, 330, 345, 346, 405, 406, 409, 410]
theorem eq_ok : eqTab.all (eqB Tryz.prog) = true := by kernel_rfl
noncomputable def tab : Tab := { ti := fun t => tyTree.find t, fi := fun f => match fnTree.find f with | some fn => fiOf fn | none => none, eqs := eqTab }

theorem ty_ok : tyTree.allB (fun t i => decide (tinfo Tryz.prog t = some i)) = true := by kernel_rfl
theorem nm_ok : fnTree.allB (fun _ fn => decide (fn.name ≠ "runtime.NumGoroutine")) = true := by kernel_rfl
theorem fn_ok : fnTree.all (fun f fn => Tryz.prog.funcs[f]? = some fn) := by
  exact ⟨⟨⟨⟨⟨⟨⟨⟨⟨trivial, Tryz.func2, trivial⟩, Tryz.func3, trivial⟩, Tryz.func4, ⟨⟨trivial, Tryz.func5, trivial⟩, Tryz.func6, trivial⟩⟩, Tryz.func7, ⟨⟨⟨trivial, Tryz.func8, trivial⟩, Tryz.func9, trivial⟩, Tryz.func10, ⟨trivial, Tryz.func11, trivial⟩⟩⟩, Tryz.func12, ⟨⟨⟨⟨trivial, Tryz.func13, trivial⟩, Tryz.func14, trivial⟩, Tryz.func15, ⟨⟨trivial, Tryz.func16, trivial⟩, Tryz.func17, trivial⟩⟩, Tryz.func18, ⟨⟨⟨trivial, Tryz.func19, trivial⟩, Tryz.func20, trivial⟩, Tryz.func21, ⟨trivial, Tryz.func22, trivial⟩⟩⟩⟩, Tryz.func23, ⟨⟨⟨⟨⟨trivial, Tryz.func24, trivial⟩, Tryz.func25, trivial⟩, Tryz.func26, ⟨⟨trivial, Tryz.func27, trivial⟩, Tryz.func28, trivial⟩⟩, Tryz.func29, ⟨⟨⟨trivial, Tryz.func30, trivial⟩, Tryz.func31, trivial⟩, Tryz.func32, ⟨trivial, Tryz.func33, trivial⟩⟩⟩, Tryz.func34, ⟨⟨⟨⟨trivial, Tryz.func35, trivial⟩, Tryz.func36, trivial⟩, Tryz.func37, ⟨⟨trivial, Tryz.func38, trivial⟩, Tryz.func39, trivial⟩⟩, Tryz.func40, ⟨⟨⟨trivial, Tryz.func41, trivial⟩, Tryz.func42, trivial⟩, Tryz.func43, ⟨trivial, Tryz.func44, trivial⟩⟩⟩⟩⟩, Tryz.func45, ⟨⟨⟨⟨⟨⟨trivial, Tryz.func46, trivial⟩, Tryz.func47, trivial⟩, Tryz.func48, ⟨⟨trivial, Tryz.func49, trivial⟩, Tryz.func50, trivial⟩⟩, Tryz.func51, ⟨⟨⟨trivial, Tryz.func52, trivial⟩, Tryz.func53, trivial⟩, Tryz.func54, ⟨trivial, Tryz.func55, trivial⟩⟩⟩, Tryz.func56, ⟨⟨⟨⟨trivial, Tryz.func57, trivial⟩, Tryz.func58, trivial⟩, Tryz.func59, ⟨⟨trivial, Tryz.func60, trivial⟩, Tryz.func61, trivial⟩⟩, Tryz.func62, ⟨⟨⟨trivial, Tryz.func63, trivial⟩, Tryz.func64, trivial⟩, Tryz.func65, ⟨trivial, Tryz.func66, trivial⟩⟩⟩⟩, Tryz.func67, ⟨⟨⟨⟨⟨trivial, Tryz.func68, trivial⟩, Tryz.func69, trivial⟩, Tryz.func70, ⟨⟨trivial, Tryz.func71, trivial⟩, Tryz.func72, trivial⟩⟩, Tryz.func73, ⟨⟨⟨trivial, Tryz.func74, trivial⟩, Tryz.func75, trivial⟩, Tryz.func76, ⟨trivial, Tryz.func77, trivial⟩⟩⟩, Tryz.func78, ⟨⟨⟨⟨trivial, Tryz.func79, trivial⟩, Tryz.func80, trivial⟩, Tryz.func81, ⟨trivial, Tryz.func82, trivial⟩⟩, Tryz.func83, ⟨⟨⟨trivial, Tryz.func84, trivial⟩, Tryz.func85, trivial⟩, Tryz.func86, ⟨trivial, Tryz.func87, trivial⟩⟩⟩⟩⟩⟩, Tryz.func88, ⟨⟨⟨⟨⟨⟨⟨trivial, Tryz.func89, trivial⟩, Tryz.func90, trivial⟩, Tryz.func91, ⟨⟨trivial, Tryz.func92, trivial⟩, Tryz.func93, trivial⟩⟩, Tryz.func94, ⟨⟨⟨trivial, Tryz.func95, trivial⟩, Tryz.func96, trivial⟩, Tryz.func97, ⟨trivial, Tryz.func98, trivial⟩⟩⟩, Tryz.func99, ⟨⟨⟨⟨trivial, Tryz.func100, trivial⟩, Tryz.func101, trivial⟩, Tryz.func102, ⟨⟨trivial, Tryz.func103, trivial⟩, Tryz.func104, trivial⟩⟩, Tryz.func105, ⟨⟨⟨trivial, Tryz.func106, trivial⟩, Tryz.func107, trivial⟩, Tryz.func108, ⟨trivial, Tryz.func109, trivial⟩⟩⟩⟩, Tryz.func110, ⟨⟨⟨⟨⟨trivial, Tryz.func111, trivial⟩, Tryz.func112, trivial⟩, Tryz.func113, ⟨⟨trivial, Tryz.func114, trivial⟩, Tryz.func115, trivial⟩⟩, Tryz.func116, ⟨⟨⟨trivial, Tryz.func117, trivial⟩, Tryz.func118, trivial⟩, Tryz.func119, ⟨trivial, Tryz.func120, trivial⟩⟩⟩, Tryz.func121, ⟨⟨⟨⟨trivial, Tryz.func122, trivial⟩, Tryz.func123, trivial⟩, Tryz.func124, ⟨trivial, Tryz.func125, trivial⟩⟩, Tryz.func126, ⟨⟨⟨trivial, Tryz.func127, trivial⟩, Tryz.func128, trivial⟩, Tryz.func129, ⟨trivial, Tryz.func130, trivial⟩⟩⟩⟩⟩, Tryz.func131, ⟨⟨⟨⟨⟨⟨trivial, Tryz.func132, trivial⟩, Tryz.func133, trivial⟩, Tryz.func134, ⟨⟨trivial, Tryz.func135, trivial⟩, Tryz.func136, trivial⟩⟩, Tryz.func137, ⟨⟨⟨trivial, Tryz.func138, trivial⟩, Tryz.func139, trivial⟩, Tryz.func140, ⟨trivial, Tryz.func141, trivial⟩⟩⟩, Tryz.func142, ⟨⟨⟨⟨trivial, Tryz.func143, trivial⟩, Tryz.func144, trivial⟩, Tryz.func145, ⟨⟨trivial, Tryz.func146, trivial⟩, Tryz.func147, trivial⟩⟩, Tryz.func148, ⟨⟨⟨trivial, Tryz.func149, trivial⟩, Tryz.func150, trivial⟩, Tryz.func151, ⟨trivial, Tryz.func152, trivial⟩⟩⟩⟩, Tryz.func153, ⟨⟨⟨⟨⟨trivial, Tryz.func154, trivial⟩, Tryz.func155, trivial⟩, Tryz.func156, ⟨⟨trivial, Tryz.func157, trivial⟩, Tryz.func158, trivial⟩⟩, Tryz.func159, ⟨⟨⟨trivial, Tryz.func160, trivial⟩, Tryz.func161, trivial⟩, Tryz.func162, ⟨trivial, Tryz.func163, trivial⟩⟩⟩, Tryz.func164, ⟨⟨⟨⟨trivial, Tryz.func165, trivial⟩, Tryz.func166, trivial⟩, Tryz.func167, ⟨trivial, Tryz.func168, trivial⟩⟩, Tryz.func169, ⟨⟨⟨trivial, Tryz.func170, trivial⟩, Tryz.func171, trivial⟩, Tryz.func172, ⟨trivial, Tryz.func173, trivial⟩⟩⟩⟩⟩⟩⟩, Tryz.func174, ⟨⟨⟨⟨⟨⟨⟨⟨trivial, Tryz.func175, trivial⟩, Tryz.func176, trivial⟩, Tryz.func177, ⟨⟨trivial, Tryz.func178, trivial⟩, Tryz.func179, trivial⟩⟩, Tryz.func180, ⟨⟨⟨trivial, Tryz.func181, trivial⟩, Tryz.func182, trivial⟩, Tryz.func183, ⟨trivial, Tryz.func184, trivial⟩⟩⟩, Tryz.func185, ⟨⟨⟨⟨trivial, Tryz.func186, trivial⟩, Tryz.func187, trivial⟩, Tryz.func188, ⟨⟨trivial, Tryz.func189, trivial⟩, Tryz.func190, trivial⟩⟩, Tryz.func191, ⟨⟨⟨trivial, Tryz.func192, trivial⟩, Tryz.func193, trivial⟩, Tryz.func194, ⟨trivial, Tryz.func195, trivial⟩⟩⟩⟩, Tryz.func196, ⟨⟨⟨⟨⟨trivial, Tryz.func197, trivial⟩, Tryz.func198, trivial⟩, Tryz.func199, ⟨⟨trivial, Tryz.func200, trivial⟩, Tryz.func201, trivial⟩⟩, Tryz.func202, ⟨⟨⟨trivial, Tryz.func203, trivial⟩, Tryz.func204, trivial⟩, Tryz.func205, ⟨trivial, Tryz.func206, trivial⟩⟩⟩, Tryz.func207, ⟨⟨⟨⟨trivial, Tryz.func208, trivial⟩, Tryz.func209, trivial⟩, Tryz.func210, ⟨⟨trivial, Tryz.func211, trivial⟩, Tryz.func212, trivial⟩⟩, Tryz.func213, ⟨⟨⟨trivial, Tryz.func214, trivial⟩, Tryz.func215, trivial⟩, Tryz.func216, ⟨trivial, Tryz.func217, trivial⟩⟩⟩⟩⟩, Tryz.func218, ⟨⟨⟨⟨⟨⟨trivial, Tryz.func219, trivial⟩, Tryz.func220, trivial⟩, Tryz.func221, ⟨⟨trivial, Tryz.func222, trivial⟩, Tryz.func223, trivial⟩⟩, Tryz.func224, ⟨⟨⟨trivial, Tryz.func225, trivial⟩, Tryz.func226, trivial⟩, Tryz.func227, ⟨trivial, Tryz.func228, trivial⟩⟩⟩, Tryz.func229, ⟨⟨⟨⟨trivial, Tryz.func230, trivial⟩, Tryz.func231, trivial⟩, Tryz.func232, ⟨⟨trivial, Tryz.func233, trivial⟩, Tryz.func234, trivial⟩⟩, Tryz.func235, ⟨⟨⟨trivial, Tryz.func236, trivial⟩, Tryz.func237, trivial⟩, Tryz.func238, ⟨trivial, Tryz.func239, trivial⟩⟩⟩⟩, Tryz.func240, ⟨⟨⟨⟨⟨trivial, Tryz.func241, trivial⟩, Tryz.func242, trivial⟩, Tryz.func243, ⟨⟨trivial, Tryz.func244, trivial⟩, Tryz.func245, trivial⟩⟩, Tryz.func246, ⟨⟨⟨trivial, Tryz.func247, trivial⟩, Tryz.func248, trivial⟩, Tryz.func249, ⟨trivial, Tryz.func250, trivial⟩⟩⟩, Tryz.func251, ⟨⟨⟨⟨trivial, Tryz.func252, trivial⟩, Tryz.func253, trivial⟩, Tryz.func254, ⟨trivial, Tryz.func255, trivial⟩⟩, Tryz.func256, ⟨⟨⟨trivial, Tryz.func257, trivial⟩, Tryz.func258, trivial⟩, Tryz.func259, ⟨trivial, Tryz.func260, trivial⟩⟩⟩⟩⟩⟩, Tryz.func261, ⟨⟨⟨⟨⟨⟨⟨trivial, Tryz.func262, trivial⟩, Tryz.func263, trivial⟩, Tryz.func264, ⟨⟨trivial, Tryz.func265, trivial⟩, Tryz.func266, trivial⟩⟩, Tryz.func267, ⟨⟨⟨trivial, Tryz.func268, trivial⟩, Tryz.func269, trivial⟩, Tryz.func270, ⟨trivial, Tryz.func271, trivial⟩⟩⟩, Tryz.func272, ⟨⟨⟨⟨trivial, Tryz.func273, trivial⟩, Tryz.func274, trivial⟩, Tryz.func275, ⟨⟨trivial, Tryz.func276, trivial⟩, Tryz.func277, trivial⟩⟩, Tryz.func278, ⟨⟨⟨trivial, Tryz.func279, trivial⟩, Tryz.func280, trivial⟩, Tryz.func281, ⟨trivial, Tryz.func282, trivial⟩⟩⟩⟩, Tryz.func283, ⟨⟨⟨⟨⟨trivial, Tryz.func284, trivial⟩, Tryz.func285, trivial⟩, Tryz.func286, ⟨⟨trivial, Tryz.func287, trivial⟩, Tryz.func288, trivial⟩⟩, Tryz.func289, ⟨⟨⟨trivial, Tryz.func290, trivial⟩, Tryz.func291, trivial⟩, Tryz.func292, ⟨trivial, Tryz.func293, trivial⟩⟩⟩, Tryz.func294, ⟨⟨⟨⟨trivial, Tryz.func295, trivial⟩, Tryz.func296, trivial⟩, Tryz.func297, ⟨trivial, Tryz.func298, trivial⟩⟩, Tryz.func299, ⟨⟨⟨trivial, Tryz.func300, trivial⟩, Tryz.func301, trivial⟩, Tryz.func302, ⟨trivial, Tryz.func303, trivial⟩⟩⟩⟩⟩, Tryz.func304, ⟨⟨⟨⟨⟨⟨trivial, Tryz.func305, trivial⟩, Tryz.func306, trivial⟩, Tryz.func307, ⟨⟨trivial, Tryz.func308, trivial⟩, Tryz.func309, trivial⟩⟩, Tryz.func310, ⟨⟨⟨trivial, Tryz.func311, trivial⟩, Tryz.func312, trivial⟩, Tryz.func313, ⟨trivial, Tryz.func314, trivial⟩⟩⟩, Tryz.func315, ⟨⟨⟨⟨trivial, Tryz.func316, trivial⟩, Tryz.func317, trivial⟩, Tryz.func318, ⟨⟨trivial, Tryz.func319, trivial⟩, Tryz.func320, trivial⟩⟩, Tryz.func321, ⟨⟨⟨trivial, Tryz.func322, trivial⟩, Tryz.func323, trivial⟩, Tryz.func340, ⟨trivial, Tryz.func341, trivial⟩⟩⟩⟩, Tryz.func342, ⟨⟨⟨⟨⟨trivial, Tryz.func343, trivial⟩, Tryz.func344, trivial⟩, Tryz.func345, ⟨⟨trivial, Tryz.func346, trivial⟩, Tryz.func347, trivial⟩⟩, Tryz.func348, ⟨⟨⟨trivial, Tryz.func349, trivial⟩, Tryz.func350, trivial⟩, Tryz.func351, ⟨trivial, Tryz.func352, trivial⟩⟩⟩, Tryz.func353, ⟨⟨⟨⟨trivial, Tryz.func354, trivial⟩, Tryz.func355, trivial⟩, Tryz.func356, ⟨trivial, Tryz.func357, trivial⟩⟩, Tryz.func358, ⟨⟨⟨trivial, Tryz.func359, trivial⟩, Tryz.func360, trivial⟩, Tryz.func361, ⟨trivial, Tryz.func362, trivial⟩⟩⟩⟩⟩⟩⟩⟩
theorem tab_ok : tab.ok Tryz.prog where
  ti := fun t i h => by
    have := Tr.find_all (Tr.of_allB ty_ok) h
    simpa using this
  fi := fun f i h => by
    simp only [tab] at h
    split at h
    · rename_i fn hf
      have h1 := Tr.find_all fn_ok hf
      have h2 := Tr.find_all (Tr.of_allB nm_ok) hf
      unfold fiOf at h
      split at h
      · rename_i b hb
        simp at h; subst h
        exact ⟨fn, h1, by simpa using h2, hb, rfl, rfl⟩
      · simp at h
    · simp at h
  mixed := by kernel_rfl
  eqs := fun t ht => List.all_eq_true.1 eq_ok t ht

end Go.Fl

/- The program's objects as kinds of the symbolic executor: the functions that it names, the shapes in memory. -/
namespace Go.Fl
open Go Go.Sx Go.Proofs

inductive U where
  | cfg (c : Cfg) | mem (m : Mem) | place (p : Place) | give (g : Give) | help (h : Help) | alloc (a : Alloc) | drop (d : Drop) | access (a : Access)
  | act (a : Act) | lst (l : Lst) | quad (a b c d : Int) | actx (x : ActX) | cw (c : Cfg) (w : Int) | dm (d : Done) (m : Mem) | am (a : Act) (m : Mem) | lm (l : Lst) (m : Mem)
  | pair (a b : U) | int (n : Int) | bool (b : Bool) | ints (l : List Int) | bools (l : List Bool) | bad
abbrev GU := G U
def gcfg : GU → Cfg | .u (.cfg c) => c | _ => default
def gmem : GU → Mem | .u (.mem c) => c | _ => default
def gplace : GU → Place | .u (.place c) => c | _ => default
def ggive : GU → Give | .u (.give c) => c | _ => default
def ghelp : GU → Help | .u (.help c) => c | _ => default
def galloc : GU → Alloc | .u (.alloc c) => c | _ => default
def gdrop : GU → Drop | .u (.drop c) => c | _ => default
def gaccess : GU → Access | .u (.access c) => c | _ => default
def gact : GU → Act | .u (.act c) => c | _ => default
def glst : GU → Lst | .u (.lst c) => c | _ => default
def gactx : GU → ActX | .u (.actx x) => x | _ => default
@[simp] theorem gactx_u (x : ActX) : gactx (.u (.actx x)) = x := rfl
def gquad : GU → Int × Int × Int × Int | .u (.quad a b c d) => (a, b, c, d) | _ => (0, 0, 0, 0)
def gdm : GU → Done × Mem | .u (.dm d m) => (d, m) | _ => default
@[simp] theorem gdm_u (d : Done) (m : Mem) : gdm (.u (.dm d m)) = (d, m) := rfl
def gam : GU → Act × Mem | .u (.am d m) => (d, m) | _ => default
@[simp] theorem gam_u (d : Act) (m : Mem) : gam (.u (.am d m)) = (d, m) := rfl
def glm : GU → Lst × Mem | .u (.lm d m) => (d, m) | _ => default
@[simp] theorem glm_u (d : Lst) (m : Mem) : glm (.u (.lm d m)) = (d, m) := rfl
def gcw : GU → Cfg × Int | .u (.cw c w) => (c, w) | _ => default
@[simp] theorem gcw_u (c : Cfg) (w : Int) : gcw (.u (.cw c w)) = (c, w) := rfl
def pdm (x : Done × Mem) : GU := .u (.dm x.1 x.2)
def pam (x : Act × Mem) : GU := .u (.am x.1 x.2)
def plm (x : Lst × Mem) : GU := .u (.lm x.1 x.2)
@[simp] theorem gdm_p (x : Done × Mem) : gdm (pdm x) = x := rfl
@[simp] theorem gam_p (x : Act × Mem) : gam (pam x) = x := rfl
@[simp] theorem glm_p (x : Lst × Mem) : glm (plm x) = x := rfl
@[simp] theorem gquad_u (a b c d : Int) : gquad (.u (.quad a b c d)) = (a, b, c, d) := rfl
@[simp] theorem gcfg_u (c : Cfg) : gcfg (.u (.cfg c)) = c := rfl
@[simp] theorem gmem_u (c : Mem) : gmem (.u (.mem c)) = c := rfl
@[simp] theorem gplace_u (c : Place) : gplace (.u (.place c)) = c := rfl
@[simp] theorem ggive_u (c : Give) : ggive (.u (.give c)) = c := rfl
@[simp] theorem ghelp_u (c : Help) : ghelp (.u (.help c)) = c := rfl
@[simp] theorem galloc_u (c : Alloc) : galloc (.u (.alloc c)) = c := rfl
@[simp] theorem gdrop_u (c : Drop) : gdrop (.u (.drop c)) = c := rfl
@[simp] theorem gaccess_u (c : Access) : gaccess (.u (.access c)) = c := rfl
@[simp] theorem gact_u (c : Act) : gact (.u (.act c)) = c := rfl
@[simp] theorem glst_u (c : Lst) : glst (.u (.lst c)) = c := rfl

def toU : GU → U | .int n => .int n | .bool b => .bool b | .ints l => .ints l | .bools l => .bools l | .u x => x | .obj _ => .bad
def ofU : U → GU | .int n => .int n | .bool b => .bool b | .ints l => .ints l | .bools l => .bools l | x => .u x
def gfst : GU → GU | .u (.pair a _) => ofU a | _ => .u .bad
def gsnd : GU → GU | .u (.pair _ b) => ofU b | _ => .u .bad
/-- The shapes are sound: by kind. -/
def shapeB (k : Nat) (sh : Shape U) : Bool := sh.H.klt k && sh.H.plain && nodupB (ids sh.H) && (ids sh.H).contains 1

/-- What may be added later: further functions, further kinds (from 9 on). -/
class ExtF where
  x1 : Nat → GU → GU
  x2 : Nat → GU → GU → GU
  x3 : Nat → GU → GU → GU → GU
  x4 : Nat → GU → GU → GU → GU → GU
  ks : Nat → List (Shape U)
  ok : ∀ k, ∀ sh ∈ ks k, shapeB k sh = true
variable [ExtF]

/-! the functions, by numbers -/
def F1 (s : Nat) (a : GU) : GU :=
  match s with
  | 0 => .int (gcfg a).threads | 1 => .int (gcfg a).slots | 2 => .int (gcfg a).chunks | 3 => .int (gcfg a).words
  | 4 => .int (gcfg a).gens | 5 => .int (gcfg a).sparse | 6 => .int (gcfg a).tries
  | 10 => .int (handleSlot a.toInt) | 11 => .int (handleGen a.toInt) | 12 => .bool (handleOk a.toInt)
  | 20 => .int (slotState a.toInt) | 21 => .int (slotAddr a.toInt) | 22 => .int (slotGen a.toInt) | 23 => .int (slotVer a.toInt)
  | 24 => .int (chunkState a.toInt) | 25 => .int (chunkClass a.toInt) | 26 => .int (chunkUsed a.toInt) | 27 => .int (chunkStamp a.toInt)
  | 28 => .int (headKind a.toInt) | 29 => .int (headSize a.toInt) | 30 => .int (headSlot a.toInt) | 31 => .int (headGen a.toInt) | 32 => .bool (headOwn a.toInt)
  | 33 => .int (cellValue a.toInt) | 34 => .bool (cellFrozen a.toInt) | 35 => .int (cellVer a.toInt)
  | 36 => .int (topSlot a.toInt) | 37 => .int (topCount a.toInt)
  | 38 => .int (classOf a.toInt) | 39 => .int (roomOf a.toInt) | 40 => .int (lenOf (gcfg a))
  | 41 => .int (gmem a).steps | 42 => .int (gmem a).la | 43 => .int (gmem a).lw | 44 => .bool (gmem a).lc | 45 => .int ((gmem a).w.length : Int)
  | 50 => .u (.place (placeNew a.toInt)) | 51 => .u (.give (giveNew a.toInt))
  | 52 => .int (spotAddr (gplace a)) | 53 => .int (spotChunk (gplace a)) | 54 => .bool (gplace a).ok
  | 60 => .int (galloc a).out.e | 61 => .int (galloc a).out.handle | 62 => .int (galloc a).out.value | 63 => .int (galloc a).out.stamp
  | 64 => .int (gdrop a).out.e | 65 => .int (gdrop a).out.handle | 66 => .int (gdrop a).out.value | 67 => .int (gdrop a).out.stamp
  | 68 => .int (gaccess a).out.e | 69 => .int (gaccess a).out.handle | 70 => .int (gaccess a).out.value | 71 => .int (gaccess a).out.stamp
  | 72 => .int (gact a).out.e | 73 => .int (gact a).out.handle | 74 => .int (gact a).out.value | 75 => .int (gact a).out.stamp
  | 76 => .int (glst a).out.e | 77 => .int (glst a).out.handle | 78 => .int (glst a).out.value | 79 => .int (glst a).out.stamp
  | 90 => .bool (actCheck (gactx a)) | 91 => .u (.act (actNew (gactx a)))
  | 80 => .int (linkNext a.toInt) | 81 => .bool (linkGone a.toInt)
  | 92 => .bool (cfgCheck (gcfg a)) | 93 => .u (.mem (freshMem (gcfg a))) | 94 => .u (.mem (memNew a.toInt))
  | 100 => .int (gdm a).1.e | 101 => .int (gdm a).1.handle | 102 => .int (gdm a).1.value | 103 => .int (gdm a).1.stamp | 104 => .u (.mem (gdm a).2)
  | 96 => .bool (!(ltI a.toInt 1) && !(ltI 1048576 a.toInt)) | 97 => gfst a | 98 => gsnd a
  | 105 => .u (.act (gam a).1) | 106 => .u (.mem (gam a).2) | 107 => .u (.lst (glm a).1) | 108 => .u (.mem (glm a).2)
  | s => ExtF.x1 s a
def F2 (s : Nat) (a b : GU) : GU :=
  match s with
  | 0 => .int (slotAt (gcfg a) b.toInt) | 1 => .int (chunkAt (gcfg a) b.toInt) | 2 => .int (baseAt (gcfg a) b.toInt) | 3 => .int (ofAt (gcfg a) b.toInt)
  | 10 => .int (putHandle a.toInt b.toInt) | 11 => .int (putTop a.toInt b.toInt) | 12 => .int (ownBit a.toInt b.toBool)
  | 20 => .int ((gmem a).val b.toInt) | 21 => .int ((gmem a).whenAt b.toInt) | 22 => .u (.mem ((gmem a).by' b.toInt))
  | 30 => .u (.alloc (allocNew a.toInt b.toBool)) | 31 => .u (.drop (dropNew a.toInt b.toBool))
  | 40 => .int (putLink a.toInt b.toBool)
  | 23 => .int (if (gmem a).okA b.toInt then 0 else 2) | 24 => .u (.mem (freshEnd (gcfg a) (gmem b)))
  | 41 => .bool (listCheck a.toInt b.toInt) | 90 => .u (.pair (toU a) (toU b))
  | 60 => .u (.cw (gcfg a) b.toInt) | 61 => .u (.am (gact a) (gmem b)) | 62 => .u (.lm (glst a) (gmem b))
  | s => ExtF.x2 s a b
def F3 (s : Nat) (a b c : GU) : GU :=
  match s with
  | 0 => .int (putCell a.toInt b.toBool c.toInt) | 1 => .bool (live a.toInt b.toInt c.toInt)
  | 2 => .bool ((gmem a).casOk b.toInt c.toInt) | 3 => .u (.mem ((gmem a).load b.toInt c.toInt))
  | 4 => .u (.help (helpNew a.toInt b.toInt c.toInt))
  | 7 => .u (.mem ((gmem a).store (gmem a).who b.toInt c.toInt)) | 8 => .u (.mem (freshFrom (gcfg a) b.toInt (gmem c)))
  -- so many steps, from a number of rounds on; what is laid as an act; what is asked
  | 60 => pam (runAct (gcw a).1 (gcw a).2 (500 - c.toInt).toNat (gam b).1 (gam b).2)
  | 61 => plm (runLst (gcw a).1 (gcw a).2 (20000 - c.toInt).toNat (glm b).1 (glm b).2)
  | 62 => pdm (doP (gcw a).1 (gcw a).2 (gactx b) (gmem c))
  | 63 => pdm (askP (gcw a).1 (gcw a).2 (gquad b).1 (gquad b).2.1 (gquad b).2.2.1 (gmem c))
  | 5 => .u (.lst (listNew a.toInt b.toInt c.toInt))
  | 6 => .u (.access (accessNew (gquad a).1 (gquad a).2.1 (gquad a).2.2.1 (gquad a).2.2.2 b.toInt c.toBool))
  | s => ExtF.x3 s a b c
def F4 (s : Nat) (a b c d : GU) : GU :=
  match s with
  | 0 => .int (putSlot a.toInt b.toInt c.toInt d.toInt) | 1 => .int (putChunk a.toInt b.toInt c.toInt d.toInt) | 2 => .int (putHead0 a.toInt b.toInt c.toInt d.toInt)
  | 10 => .u (.mem ((gmem a).store b.toInt c.toInt d.toInt)) | 11 => .u (.mem ((gmem a).add b.toInt c.toInt d.toInt))
  | 12 => .u (.mem ((gmem a).cas (gmem a).who b.toInt c.toInt d.toInt))
  | 20 => .u (.place (placeStep (gcfg c) d.toInt (gplace a) (gmem b)).1) | 21 => .u (.mem (placeStep (gcfg c) d.toInt (gplace a) (gmem b)).2.1) | 22 => .bool (placeStep (gcfg c) d.toInt (gplace a) (gmem b)).2.2
  | 23 => .u (.give (giveStep (gcfg c) d.toInt (ggive a) (gmem b)).1) | 24 => .u (.mem (giveStep (gcfg c) d.toInt (ggive a) (gmem b)).2.1) | 25 => .bool (giveStep (gcfg c) d.toInt (ggive a) (gmem b)).2.2
  | 26 => .u (.help (helpStep (gcfg c) d.toInt (ghelp a) (gmem b)).1) | 27 => .u (.mem (helpStep (gcfg c) d.toInt (ghelp a) (gmem b)).2.1) | 28 => .bool (helpStep (gcfg c) d.toInt (ghelp a) (gmem b)).2.2
  | 30 => .u (.alloc (allocStep (gcfg c) d.toInt (galloc a) (gmem b)).1) | 31 => .u (.mem (allocStep (gcfg c) d.toInt (galloc a) (gmem b)).2.1) | 32 => .bool (allocStep (gcfg c) d.toInt (galloc a) (gmem b)).2.2
  | 33 => .u (.drop (dropStep (gcfg c) d.toInt (gdrop a) (gmem b)).1) | 34 => .u (.mem (dropStep (gcfg c) d.toInt (gdrop a) (gmem b)).2.1) | 35 => .bool (dropStep (gcfg c) d.toInt (gdrop a) (gmem b)).2.2
  | 36 => .u (.access (accessStep (gcfg c) d.toInt (gaccess a) (gmem b)).1) | 37 => .u (.mem (accessStep (gcfg c) d.toInt (gaccess a) (gmem b)).2.1) | 38 => .bool (accessStep (gcfg c) d.toInt (gaccess a) (gmem b)).2.2
  | 40 => .u (.act (actStep (gcfg c) d.toInt (gact a) (gmem b)).1) | 41 => .u (.mem (actStep (gcfg c) d.toInt (gact a) (gmem b)).2.1) | 42 => .bool (actStep (gcfg c) d.toInt (gact a) (gmem b)).2.2
  | 51 => .u (.actx ⟨(gquad a).1, (gquad a).2.1, (gquad a).2.2.1, (gquad a).2.2.2, b.toInt, c.toInt, d.toBool⟩)
  | 50 => .u (.quad a.toInt b.toInt c.toInt d.toInt)
  | 60 => .u (.cfg ⟨(gquad a).1, (gquad a).2.1, (gquad a).2.2.1, (gquad a).2.2.2, b.toInt, c.toInt, d.toInt⟩)
  | 43 => .u (.lst (listStep (gcfg c) d.toInt (glst a) (gmem b)).1) | 44 => .u (.mem (listStep (gcfg c) d.toInt (glst a) (gmem b)).2.1) | 45 => .bool (listStep (gcfg c) d.toInt (glst a) (gmem b)).2.2
  | s => ExtF.x4 s a b c d

/-! the shapes -/
def xi (i : Nat) : S1 := .int .i64 (.var i)
def xu (i : Nat) : S1 := .int .u64 (.var i)
def xb (i : Nat) : S1 := .bool (.var i)
def xp (i : Nat) : S1 := .ptr i (.int 0)
abbrev V := Nat → GU

def memH : SH := [(3, .row (.int .i64) (.var 1)), (2, .row (.int .u64) (.var 0)),
  (1, .cells [.slice 2 (.int 0) (.var 7) (.var 7), .slice 3 (.int 0) (.var 8) (.var 8), xi 2, xi 3, xi 4, xi 5, xb 6])]
def memS : Shape U := ⟨memH, fun v => .u (.mem ⟨(v 0).toInts, (v 1).toInts, (v 2).toInt, (v 3).toInt, (v 4).toInt, (v 5).toInt, (v 6).toBool⟩), fun v => (v 7).toInt = (v 0).toInts.length ∧ (v 8).toInt = (v 0).toInts.length ∧ (v 1).toInts.length = (v 0).toInts.length⟩
def placeS : Shape U := ⟨[(1, .cells [xi 0, xi 1, xu 2, xi 3, xu 4, xi 5, xi 6, xb 7])],
  fun v => .u (.place ⟨(v 0).toInt, (v 1).toInt, (v 2).toInt, (v 3).toInt, (v 4).toInt, (v 5).toInt, (v 6).toInt, (v 7).toBool⟩), fun _ => True⟩
def giveS : Shape U := ⟨[(1, .cells [xi 0, xi 1, xu 2])], fun v => .u (.give ⟨(v 0).toInt, (v 1).toInt, (v 2).toInt⟩), fun _ => True⟩
def helpS : Shape U := ⟨[(1, .cells [xi 0, xu 1, xi 2, xi 3, xu 4, xb 5, xb 6])],
  fun v => .u (.help ⟨(v 0).toInt, (v 1).toInt, (v 2).toInt, (v 3).toInt, (v 4).toInt, (v 5).toBool, (v 6).toBool⟩), fun _ => True⟩

def optH (b : Bool) (id k v : Nat) : SH := if b then [(id, .res k (.var v))] else []
def optP (b : Bool) (id : Nat) : S1 := if b then xp id else .nilp
def optG {α : Type} (b : Bool) (x : α) : Option α := if b then some x else none

def allocS (p g : Bool) : Shape U := ⟨optH g 3 2 19 ++ optH p 2 1 18 ++
    [(1, .cells [xi 0, xb 1, xi 2, xi 3, xu 4, xi 5, xi 6, xb 7, xi 8, xi 9, optP p 2, xi 10, xi 11, optP g 3, xi 12, xu 13, xi 14, xi 15])],
  fun v => .u (.alloc ⟨(v 0).toInt, (v 1).toBool, (v 2).toInt, ⟨(v 3).toInt, (v 4).toInt, (v 5).toInt, (v 6).toInt, (v 7).toBool⟩, (v 8).toInt, (v 9).toInt, optG p (gplace (v 18)),
    (v 10).toInt, (v 11).toInt, optG g (ggive (v 19)), ⟨(v 12).toInt, (v 13).toInt, (v 14).toInt, (v 15).toInt⟩⟩),
  fun _ => True⟩
def dropS (p g : Bool) : Shape U := ⟨optH g 3 2 19 ++ optH p 2 3 18 ++
    [(1, .cells [xu 0, xb 1, xi 2, xi 3, xi 4, xu 5, xi 6, optP p 2, optP g 3, xi 7, xu 8, xi 9, xi 10])],
  fun v => .u (.drop ⟨(v 0).toInt, (v 1).toBool, (v 2).toInt, (v 3).toInt, (v 4).toInt, (v 5).toInt, (v 6).toInt, optG p (ghelp (v 18)), optG g (ggive (v 19)),
    ⟨(v 7).toInt, (v 8).toInt, (v 9).toInt, (v 10).toInt⟩⟩),
  fun _ => True⟩
def accessS (p : Bool) : Shape U := ⟨optH p 2 3 18 ++
    [(1, .cells [xi 0, xu 1, xi 2, xi 3, xi 4, xb 5, xi 6, xi 7, xi 8, xu 9, xu 10, xi 11, xi 12, xi 13, optP p 2, xi 14, xu 15, xi 16, xi 17])],
  fun v => .u (.access ⟨(v 0).toInt, (v 1).toInt, (v 2).toInt, (v 3).toInt, (v 4).toInt, (v 5).toBool, (v 6).toInt, (v 7).toInt, (v 8).toInt, (v 9).toInt, (v 10).toInt, (v 11).toInt, (v 12).toInt, (v 13).toInt,
    optG p (ghelp (v 18)), ⟨(v 14).toInt, (v 15).toInt, (v 16).toInt, (v 17).toInt⟩⟩),
  fun _ => True⟩

/-- types: *alloc.Alloc, *drop.Drop, *access.Access -/
def tAlloc : Nat := 290
def tDrop : Nat := 292
def tAccess : Nat := 294
def actS (t k : Nat) (w : GU → Work) : Shape U := ⟨[(2, .res k (.var 7)), (1, .cells [xi 0, xu 1, xi 2, .ifp t 2 (.int 0), xi 3, xu 4, xi 5, xi 6])],
  fun v => .u (.act ⟨⟨(v 0).toInt, (v 1).toInt⟩, (v 2).toInt, w (v 7), ⟨(v 3).toInt, (v 4).toInt, (v 5).toInt, (v 6).toInt⟩⟩), fun _ => True⟩
def listS (a : Bool) : Shape U := ⟨optH a 2 7 14 ++ [(1, .cells [xi 0, xi 1, xu 2, xi 3, optP a 2, xu 4, xu 5, xi 6, xu 7, xi 8, xi 9, xu 10, xi 11, xi 12])],
  fun v => .u (.lst ⟨(v 0).toInt, (v 1).toInt, (v 2).toInt, (v 3).toInt, optG a (gact (v 14)), (v 4).toInt, (v 5).toInt, (v 6).toInt, (v 7).toInt, (v 8).toInt, ⟨(v 9).toInt, (v 10).toInt, (v 11).toInt, (v 12).toInt⟩⟩), fun _ => True⟩

def kinds : Nat → List (Shape U)
  | 0 => [memS]
  | 1 => [placeS]
  | 2 => [giveS]
  | 3 => [helpS]
  | 4 => [allocS false false, allocS true false, allocS true true]
  | 5 => [dropS false false, dropS true false, dropS false true, dropS true true]
  | 6 => [accessS false, accessS true]
  | 7 => [actS tAlloc 4 fun g => .alloc (galloc g), actS tDrop 5 fun g => .drop (gdrop g), actS tAccess 6 fun g => .access (gaccess g)]
  | 8 => [listS false, listS true]
  | k => ExtF.ks k

def L : Lang U := ⟨F1, F2, F3, F4, kinds⟩
def NK : Nat := 20
noncomputable abbrev SG : Sig U := L.sig NK

/-! the environment's cells: the arena's shape is known by one variable -/
def cfgE (c : E) : List S1 := (List.range 7).map fun i => .int .i64 (.f1 i c)
def envV (c : Nat) (m : Nat) (who : Nat) : SV := .one (.agg (cfgE (.var c) ++ [.ptr m (.int 0), .int .i64 (.var who)]))
def iV (i : Nat) : SV := .one (.c (xi i))
def uV (i : Nat) : SV := .one (.c (xu i))
def bV (i : Nat) : SV := .one (.c (xb i))

end Go.Fl

/- The functions by their numbers: printed by mkf.py. -/
namespace Go.Fl
open Go Go.Sx
variable [ExtF]

theorem f1_0 (a : GU) : F1 0 a = .int (gcfg a).threads := rfl
theorem f1_1 (a : GU) : F1 1 a = .int (gcfg a).slots := rfl
theorem f1_2 (a : GU) : F1 2 a = .int (gcfg a).chunks := rfl
theorem f1_3 (a : GU) : F1 3 a = .int (gcfg a).words := rfl
theorem f1_4 (a : GU) : F1 4 a = .int (gcfg a).gens := rfl
theorem f1_5 (a : GU) : F1 5 a = .int (gcfg a).sparse := rfl
theorem f1_6 (a : GU) : F1 6 a = .int (gcfg a).tries := rfl
theorem f1_10 (a : GU) : F1 10 a = .int (handleSlot a.toInt) := rfl
theorem f1_11 (a : GU) : F1 11 a = .int (handleGen a.toInt) := rfl
theorem f1_12 (a : GU) : F1 12 a = .bool (handleOk a.toInt) := rfl
theorem f1_20 (a : GU) : F1 20 a = .int (slotState a.toInt) := rfl
theorem f1_21 (a : GU) : F1 21 a = .int (slotAddr a.toInt) := rfl
theorem f1_22 (a : GU) : F1 22 a = .int (slotGen a.toInt) := rfl
theorem f1_23 (a : GU) : F1 23 a = .int (slotVer a.toInt) := rfl
theorem f1_24 (a : GU) : F1 24 a = .int (chunkState a.toInt) := rfl
theorem f1_25 (a : GU) : F1 25 a = .int (chunkClass a.toInt) := rfl
theorem f1_26 (a : GU) : F1 26 a = .int (chunkUsed a.toInt) := rfl
theorem f1_27 (a : GU) : F1 27 a = .int (chunkStamp a.toInt) := rfl
theorem f1_28 (a : GU) : F1 28 a = .int (headKind a.toInt) := rfl
theorem f1_29 (a : GU) : F1 29 a = .int (headSize a.toInt) := rfl
theorem f1_30 (a : GU) : F1 30 a = .int (headSlot a.toInt) := rfl
theorem f1_31 (a : GU) : F1 31 a = .int (headGen a.toInt) := rfl
theorem f1_32 (a : GU) : F1 32 a = .bool (headOwn a.toInt) := rfl
theorem f1_33 (a : GU) : F1 33 a = .int (cellValue a.toInt) := rfl
theorem f1_34 (a : GU) : F1 34 a = .bool (cellFrozen a.toInt) := rfl
theorem f1_35 (a : GU) : F1 35 a = .int (cellVer a.toInt) := rfl
theorem f1_36 (a : GU) : F1 36 a = .int (topSlot a.toInt) := rfl
theorem f1_37 (a : GU) : F1 37 a = .int (topCount a.toInt) := rfl
theorem f1_38 (a : GU) : F1 38 a = .int (classOf a.toInt) := rfl
theorem f1_39 (a : GU) : F1 39 a = .int (roomOf a.toInt) := rfl
theorem f1_40 (a : GU) : F1 40 a = .int (lenOf (gcfg a)) := rfl
theorem f1_41 (a : GU) : F1 41 a = .int (gmem a).steps := rfl
theorem f1_42 (a : GU) : F1 42 a = .int (gmem a).la := rfl
theorem f1_43 (a : GU) : F1 43 a = .int (gmem a).lw := rfl
theorem f1_44 (a : GU) : F1 44 a = .bool (gmem a).lc := rfl
theorem f1_45 (a : GU) : F1 45 a = .int ((gmem a).w.length : Int) := rfl
theorem f1_50 (a : GU) : F1 50 a = .u (.place (placeNew a.toInt)) := rfl
theorem f1_51 (a : GU) : F1 51 a = .u (.give (giveNew a.toInt)) := rfl
theorem f1_52 (a : GU) : F1 52 a = .int (spotAddr (gplace a)) := rfl
theorem f1_53 (a : GU) : F1 53 a = .int (spotChunk (gplace a)) := rfl
theorem f1_54 (a : GU) : F1 54 a = .bool (gplace a).ok := rfl
theorem f1_60 (a : GU) : F1 60 a = .int (galloc a).out.e := rfl
theorem f1_61 (a : GU) : F1 61 a = .int (galloc a).out.handle := rfl
theorem f1_62 (a : GU) : F1 62 a = .int (galloc a).out.value := rfl
theorem f1_63 (a : GU) : F1 63 a = .int (galloc a).out.stamp := rfl
theorem f1_64 (a : GU) : F1 64 a = .int (gdrop a).out.e := rfl
theorem f1_65 (a : GU) : F1 65 a = .int (gdrop a).out.handle := rfl
theorem f1_66 (a : GU) : F1 66 a = .int (gdrop a).out.value := rfl
theorem f1_67 (a : GU) : F1 67 a = .int (gdrop a).out.stamp := rfl
theorem f1_68 (a : GU) : F1 68 a = .int (gaccess a).out.e := rfl
theorem f1_69 (a : GU) : F1 69 a = .int (gaccess a).out.handle := rfl
theorem f1_70 (a : GU) : F1 70 a = .int (gaccess a).out.value := rfl
theorem f1_71 (a : GU) : F1 71 a = .int (gaccess a).out.stamp := rfl
theorem f1_72 (a : GU) : F1 72 a = .int (gact a).out.e := rfl
theorem f1_73 (a : GU) : F1 73 a = .int (gact a).out.handle := rfl
theorem f1_74 (a : GU) : F1 74 a = .int (gact a).out.value := rfl
theorem f1_75 (a : GU) : F1 75 a = .int (gact a).out.stamp := rfl
theorem f1_76 (a : GU) : F1 76 a = .int (glst a).out.e := rfl
theorem f1_77 (a : GU) : F1 77 a = .int (glst a).out.handle := rfl
theorem f1_78 (a : GU) : F1 78 a = .int (glst a).out.value := rfl
theorem f1_79 (a : GU) : F1 79 a = .int (glst a).out.stamp := rfl
theorem f1_90 (a : GU) : F1 90 a = .bool (actCheck (gactx a)) := rfl
theorem f1_91 (a : GU) : F1 91 a = .u (.act (actNew (gactx a))) := rfl
theorem f1_80 (a : GU) : F1 80 a = .int (linkNext a.toInt) := rfl
theorem f1_81 (a : GU) : F1 81 a = .bool (linkGone a.toInt) := rfl
theorem f1_92 (a : GU) : F1 92 a = .bool (cfgCheck (gcfg a)) := rfl
theorem f1_93 (a : GU) : F1 93 a = .u (.mem (freshMem (gcfg a))) := rfl
theorem f1_94 (a : GU) : F1 94 a = .u (.mem (memNew a.toInt)) := rfl
theorem f1_100 (a : GU) : F1 100 a = .int (gdm a).1.e := rfl
theorem f1_101 (a : GU) : F1 101 a = .int (gdm a).1.handle := rfl
theorem f1_102 (a : GU) : F1 102 a = .int (gdm a).1.value := rfl
theorem f1_103 (a : GU) : F1 103 a = .int (gdm a).1.stamp := rfl
theorem f1_104 (a : GU) : F1 104 a = .u (.mem (gdm a).2) := rfl
theorem f1_96 (a : GU) : F1 96 a = .bool (!(ltI a.toInt 1) && !(ltI 1048576 a.toInt)) := rfl
theorem f1_97 (a : GU) : F1 97 a = gfst a := rfl
theorem f1_98 (a : GU) : F1 98 a = gsnd a := rfl
theorem f1_105 (a : GU) : F1 105 a = .u (.act (gam a).1) := rfl
theorem f1_106 (a : GU) : F1 106 a = .u (.mem (gam a).2) := rfl
theorem f1_107 (a : GU) : F1 107 a = .u (.lst (glm a).1) := rfl
theorem f1_108 (a : GU) : F1 108 a = .u (.mem (glm a).2) := rfl
theorem f2_0 (a b : GU) : F2 0 a b = .int (slotAt (gcfg a) b.toInt) := rfl
theorem f2_1 (a b : GU) : F2 1 a b = .int (chunkAt (gcfg a) b.toInt) := rfl
theorem f2_2 (a b : GU) : F2 2 a b = .int (baseAt (gcfg a) b.toInt) := rfl
theorem f2_3 (a b : GU) : F2 3 a b = .int (ofAt (gcfg a) b.toInt) := rfl
theorem f2_10 (a b : GU) : F2 10 a b = .int (putHandle a.toInt b.toInt) := rfl
theorem f2_11 (a b : GU) : F2 11 a b = .int (putTop a.toInt b.toInt) := rfl
theorem f2_12 (a b : GU) : F2 12 a b = .int (ownBit a.toInt b.toBool) := rfl
theorem f2_20 (a b : GU) : F2 20 a b = .int ((gmem a).val b.toInt) := rfl
theorem f2_21 (a b : GU) : F2 21 a b = .int ((gmem a).whenAt b.toInt) := rfl
theorem f2_22 (a b : GU) : F2 22 a b = .u (.mem ((gmem a).by' b.toInt)) := rfl
theorem f2_30 (a b : GU) : F2 30 a b = .u (.alloc (allocNew a.toInt b.toBool)) := rfl
theorem f2_31 (a b : GU) : F2 31 a b = .u (.drop (dropNew a.toInt b.toBool)) := rfl
theorem f2_40 (a b : GU) : F2 40 a b = .int (putLink a.toInt b.toBool) := rfl
theorem f2_23 (a b : GU) : F2 23 a b = .int (if (gmem a).okA b.toInt then 0 else 2) := rfl
theorem f2_24 (a b : GU) : F2 24 a b = .u (.mem (freshEnd (gcfg a) (gmem b))) := rfl
theorem f2_41 (a b : GU) : F2 41 a b = .bool (listCheck a.toInt b.toInt) := rfl
theorem f2_90 (a b : GU) : F2 90 a b = .u (.pair (toU a) (toU b)) := rfl
theorem f2_60 (a b : GU) : F2 60 a b = .u (.cw (gcfg a) b.toInt) := rfl
theorem f2_61 (a b : GU) : F2 61 a b = .u (.am (gact a) (gmem b)) := rfl
theorem f2_62 (a b : GU) : F2 62 a b = .u (.lm (glst a) (gmem b)) := rfl
theorem f3_0 (a b c : GU) : F3 0 a b c = .int (putCell a.toInt b.toBool c.toInt) := rfl
theorem f3_1 (a b c : GU) : F3 1 a b c = .bool (live a.toInt b.toInt c.toInt) := rfl
theorem f3_2 (a b c : GU) : F3 2 a b c = .bool ((gmem a).casOk b.toInt c.toInt) := rfl
theorem f3_3 (a b c : GU) : F3 3 a b c = .u (.mem ((gmem a).load b.toInt c.toInt)) := rfl
theorem f3_4 (a b c : GU) : F3 4 a b c = .u (.help (helpNew a.toInt b.toInt c.toInt)) := rfl
theorem f3_7 (a b c : GU) : F3 7 a b c = .u (.mem ((gmem a).store (gmem a).who b.toInt c.toInt)) := rfl
theorem f3_8 (a b c : GU) : F3 8 a b c = .u (.mem (freshFrom (gcfg a) b.toInt (gmem c))) := rfl
theorem f3_60 (a b c : GU) : F3 60 a b c = pam (runAct (gcw a).1 (gcw a).2 (500 - c.toInt).toNat (gam b).1 (gam b).2) := rfl
theorem f3_61 (a b c : GU) : F3 61 a b c = plm (runLst (gcw a).1 (gcw a).2 (20000 - c.toInt).toNat (glm b).1 (glm b).2) := rfl
theorem f3_62 (a b c : GU) : F3 62 a b c = pdm (doP (gcw a).1 (gcw a).2 (gactx b) (gmem c)) := rfl
theorem f3_63 (a b c : GU) : F3 63 a b c = pdm (askP (gcw a).1 (gcw a).2 (gquad b).1 (gquad b).2.1 (gquad b).2.2.1 (gmem c)) := rfl
theorem f3_5 (a b c : GU) : F3 5 a b c = .u (.lst (listNew a.toInt b.toInt c.toInt)) := rfl
theorem f3_6 (a b c : GU) : F3 6 a b c = .u (.access (accessNew (gquad a).1 (gquad a).2.1 (gquad a).2.2.1 (gquad a).2.2.2 b.toInt c.toBool)) := rfl
theorem f4_0 (a b c d : GU) : F4 0 a b c d = .int (putSlot a.toInt b.toInt c.toInt d.toInt) := rfl
theorem f4_1 (a b c d : GU) : F4 1 a b c d = .int (putChunk a.toInt b.toInt c.toInt d.toInt) := rfl
theorem f4_2 (a b c d : GU) : F4 2 a b c d = .int (putHead0 a.toInt b.toInt c.toInt d.toInt) := rfl
theorem f4_10 (a b c d : GU) : F4 10 a b c d = .u (.mem ((gmem a).store b.toInt c.toInt d.toInt)) := rfl
theorem f4_11 (a b c d : GU) : F4 11 a b c d = .u (.mem ((gmem a).add b.toInt c.toInt d.toInt)) := rfl
theorem f4_12 (a b c d : GU) : F4 12 a b c d = .u (.mem ((gmem a).cas (gmem a).who b.toInt c.toInt d.toInt)) := rfl
theorem f4_20 (a b c d : GU) : F4 20 a b c d = .u (.place (placeStep (gcfg c) d.toInt (gplace a) (gmem b)).1) := rfl
theorem f4_21 (a b c d : GU) : F4 21 a b c d = .u (.mem (placeStep (gcfg c) d.toInt (gplace a) (gmem b)).2.1) := rfl
theorem f4_22 (a b c d : GU) : F4 22 a b c d = .bool (placeStep (gcfg c) d.toInt (gplace a) (gmem b)).2.2 := rfl
theorem f4_23 (a b c d : GU) : F4 23 a b c d = .u (.give (giveStep (gcfg c) d.toInt (ggive a) (gmem b)).1) := rfl
theorem f4_24 (a b c d : GU) : F4 24 a b c d = .u (.mem (giveStep (gcfg c) d.toInt (ggive a) (gmem b)).2.1) := rfl
theorem f4_25 (a b c d : GU) : F4 25 a b c d = .bool (giveStep (gcfg c) d.toInt (ggive a) (gmem b)).2.2 := rfl
theorem f4_26 (a b c d : GU) : F4 26 a b c d = .u (.help (helpStep (gcfg c) d.toInt (ghelp a) (gmem b)).1) := rfl
theorem f4_27 (a b c d : GU) : F4 27 a b c d = .u (.mem (helpStep (gcfg c) d.toInt (ghelp a) (gmem b)).2.1) := rfl
theorem f4_28 (a b c d : GU) : F4 28 a b c d = .bool (helpStep (gcfg c) d.toInt (ghelp a) (gmem b)).2.2 := rfl
theorem f4_30 (a b c d : GU) : F4 30 a b c d = .u (.alloc (allocStep (gcfg c) d.toInt (galloc a) (gmem b)).1) := rfl
theorem f4_31 (a b c d : GU) : F4 31 a b c d = .u (.mem (allocStep (gcfg c) d.toInt (galloc a) (gmem b)).2.1) := rfl
theorem f4_32 (a b c d : GU) : F4 32 a b c d = .bool (allocStep (gcfg c) d.toInt (galloc a) (gmem b)).2.2 := rfl
theorem f4_33 (a b c d : GU) : F4 33 a b c d = .u (.drop (dropStep (gcfg c) d.toInt (gdrop a) (gmem b)).1) := rfl
theorem f4_34 (a b c d : GU) : F4 34 a b c d = .u (.mem (dropStep (gcfg c) d.toInt (gdrop a) (gmem b)).2.1) := rfl
theorem f4_35 (a b c d : GU) : F4 35 a b c d = .bool (dropStep (gcfg c) d.toInt (gdrop a) (gmem b)).2.2 := rfl
theorem f4_36 (a b c d : GU) : F4 36 a b c d = .u (.access (accessStep (gcfg c) d.toInt (gaccess a) (gmem b)).1) := rfl
theorem f4_37 (a b c d : GU) : F4 37 a b c d = .u (.mem (accessStep (gcfg c) d.toInt (gaccess a) (gmem b)).2.1) := rfl
theorem f4_38 (a b c d : GU) : F4 38 a b c d = .bool (accessStep (gcfg c) d.toInt (gaccess a) (gmem b)).2.2 := rfl
theorem f4_40 (a b c d : GU) : F4 40 a b c d = .u (.act (actStep (gcfg c) d.toInt (gact a) (gmem b)).1) := rfl
theorem f4_41 (a b c d : GU) : F4 41 a b c d = .u (.mem (actStep (gcfg c) d.toInt (gact a) (gmem b)).2.1) := rfl
theorem f4_42 (a b c d : GU) : F4 42 a b c d = .bool (actStep (gcfg c) d.toInt (gact a) (gmem b)).2.2 := rfl
theorem f4_51 (a b c d : GU) : F4 51 a b c d = .u (.actx ⟨(gquad a).1, (gquad a).2.1, (gquad a).2.2.1, (gquad a).2.2.2, b.toInt, c.toInt, d.toBool⟩) := rfl
theorem f4_50 (a b c d : GU) : F4 50 a b c d = .u (.quad a.toInt b.toInt c.toInt d.toInt) := rfl
theorem f4_60 (a b c d : GU) : F4 60 a b c d = .u (.cfg ⟨(gquad a).1, (gquad a).2.1, (gquad a).2.2.1, (gquad a).2.2.2, b.toInt, c.toInt, d.toInt⟩) := rfl
theorem f4_43 (a b c d : GU) : F4 43 a b c d = .u (.lst (listStep (gcfg c) d.toInt (glst a) (gmem b)).1) := rfl
theorem f4_44 (a b c d : GU) : F4 44 a b c d = .u (.mem (listStep (gcfg c) d.toInt (glst a) (gmem b)).2.1) := rfl
theorem f4_45 (a b c d : GU) : F4 45 a b c d = .bool (listStep (gcfg c) d.toInt (glst a) (gmem b)).2.2 := rfl
end Go.Fl

/- Templates, level 1: word and layout. -/
namespace Go.Fl
open Go Go.Sx
variable [ExtF]

def iE (e : E) : SV := .one (.c (.int .i64 e))
def uE (e : E) : SV := .one (.c (.int .u64 e))
def bE (e : E) : SV := .one (.c (.bool e))
def v0 : E := .var 0
def v1 : E := .var 1
def v2 : E := .var 2
def v3 : E := .var 3
def v4 : E := .var 4
def aggI (l : List E) : S2 := .agg (l.map fun e => .int .i64 e)
/-- a function of numbers alone -/
def pureT (args : List SV) (ret : SV) : Tmpl := ⟨args, [], 1, [⟨true, ret, [], 1, []⟩]⟩

def tHandle : Tmpl := pureT [uE v0] (.tup [.agg [.int .i64 (.f1 10 v0), .int .i64 (.f1 11 v0)], .c (.bool (.f1 12 v0))])
def tCell : Tmpl := pureT [uE v0] (.one (.agg [.int .i64 (.f1 33 v0), .bool (.f1 34 v0), .int .i64 (.f1 35 v0)]))
def tSlot : Tmpl := pureT [uE v0] (.one (aggI [.f1 20 v0, .f1 21 v0, .f1 22 v0, .f1 23 v0]))
def tChunk : Tmpl := pureT [uE v0] (.one (aggI [.f1 24 v0, .f1 25 v0, .f1 26 v0, .f1 27 v0]))
def tHead : Tmpl := pureT [uE v0] (.one (.agg [.int .i64 (.f1 28 v0), .int .i64 (.f1 29 v0), .int .i64 (.f1 30 v0), .int .i64 (.f1 31 v0), .bool (.f1 32 v0)]))
def tTop : Tmpl := pureT [uE v0] (.tup [.c (.int .i64 (.f1 36 v0)), .c (.int .i64 (.f1 37 v0))])
def tPutHandle : Tmpl := pureT [.one (aggI [v0, v1])] (uE (.f2 10 v0 v1))
def tPutSlot : Tmpl := pureT [.one (aggI [v0, v1, v2, v3])] (uE (.f4 0 v0 v1 v2 v3))
def tPutChunk : Tmpl := pureT [.one (aggI [v0, v1, v2, v3])] (uE (.f4 1 v0 v1 v2 v3))
def tPutHead : Tmpl := pureT [.one (.agg [.int .i64 v0, .int .i64 v1, .int .i64 v2, .int .i64 v3, .bool v4])] (uE (.f2 12 (.f4 2 v0 v1 v2 v3) v4))
def tPutCell : Tmpl := pureT [.one (.agg [.int .i64 v0, .bool v1, .int .i64 v2])] (uE (.f3 0 v0 v1 v2))
def tPutTop : Tmpl := pureT [iE v0, iE v1] (uE (.f2 11 v0 v1))
def cfgV : SV := .one (.agg (cfgE v0))
def tSlotAt : Tmpl := pureT [cfgV, iE v1] (iE (.f2 0 v0 v1))
def tChunkAt : Tmpl := pureT [cfgV, iE v1] (iE (.f2 1 v0 v1))
def tBaseAt : Tmpl := pureT [cfgV, iE v1] (iE (.f2 2 v0 v1))
def tLen : Tmpl := pureT [cfgV] (iE (.f1 40 v0))
def tClass : Tmpl := pureT [iE v0] (iE (.f1 38 v0))
def tRoom : Tmpl := pureT [iE v0] (iE (.f1 39 v0))
def tLive : Tmpl := pureT [.one (aggI [v0, v1, v2, v3]), .one (aggI [v4, .var 5])] (bE (.f3 1 v0 v2 (.var 5)))
def tLink : Tmpl := pureT [iE v0] (.one (.agg [.int .u64 (.f1 80 v0), .bool (.f1 81 v0)]))
def tPutLink : Tmpl := pureT [.one (.agg [.int .u64 v0, .bool v1])] (iE (.f2 40 v0 v1))

def ts1 : List (Nat × Tmpl) := [(115, tHandle), (116, tCell), (117, tSlot), (160, tChunk), (207, tHead), (224, tTop), (201, tPutHandle), (210, tPutSlot), (225, tPutChunk), (267, tPutHead),
  (237, tPutCell), (211, tPutTop), (98, tSlotAt), (95, tChunkAt), (128, tBaseAt), (129, tLen), (138, tClass), (140, tRoom), (31, tLink), (32, tPutLink), (356, tLive)]
def tmOf (ts : List (Nat × Tmpl)) : CH := tmplOf fun f => (ts.filter fun p => p.1 == f).map (·.2)
def tm1 : CH := tmOf ts1
end Go.Fl

/- Small laws for showing templates. -/
namespace Go.Fl
open Go Go.Sx Go.Proofs
variable [ExtF]

noncomputable abbrev prog : Program := Tryz.prog

theorem sg_f1 : SG.f1 = F1 := rfl
theorem sg_f2 : SG.f2 = F2 := rfl
theorem sg_f3 : SG.f3 = F3 := rfl
theorem sg_f4 : SG.f4 = F4 := rfl

def AllC (l : List CO) (p : CO → Prop) : Prop := ∀ c ∈ l, p c
end Go.Fl
namespace Go.Fl
open Go Go.Sx Go.Proofs

theorem allC_nil (p : CO → Prop) : AllC [] p := fun c h => by cases h
theorem allC_cons {c : CO} {l : List CO} {p : CO → Prop} (h : p c) (h' : AllC l p) : AllC (c :: l) p := fun x hx => by
  rcases List.mem_cons.1 hx with rfl | hx
  · exact h
  · exact h' x hx

end Go.Fl
namespace Go.Fl
open Go Go.Sx Go.Proofs
variable [ExtF]

theorem pt_nil (v : V) : PT SG v [] ↔ True := by simp [PT]
theorem pt_cons (v : V) (e : E) (b : Bool) (l : Path) : PT SG v ((e, b) :: l) ↔ (e.den SG v).toBool = b ∧ PT SG v l := by
  simp only [PT, List.forall_mem_cons]

theorem pure_ok {f : FuncId} {tm : CH} (htm : CallOK SG prog tm) {args : List SV} {ret : SV} {cs : List CO} (hcs : callX tab tm 20 20 f args [] 1 [] = some cs)
    (h : AllC cs fun c => ∀ v : V, PT SG v c.pa → c.ok = true ∧ ∀ n : Env U, n.v = v → c.ret.den SG n = ret.den SG n) : (pureT args ret).ok SG prog f :=
  Tmpl.plain (L := L) (N := NK) (ret0 := ret) (root := none) (rest0 := []) (nxo := 1) tab_ok htm rfl (fun r k e0 h => by cases h)
    ⟨cs, hcs, fun c hc v hp => ⟨(h c hc v hp).1, (h c hc v hp).2, fun p hp => by cases hp⟩⟩

/-! the operations' meaning, in forms that may be rewritten -/
def inN (a : Int) (n : Nat) : Bool := decide (a.toNat < n)
end Go.Fl
namespace Go.Fl
open Go Go.Sx Go.Proofs

theorem ltI_t (a b : Int) : ltI a b = true ↔ a < b := by simp [ltI]
theorem ltI_f (a b : Int) : ltI a b = false ↔ ¬ a < b := by simp [ltI]
theorem inN_t (a : Int) (n : Nat) : inN a n = true ↔ a.toNat < n := by simp [inN]
theorem inN_f (a : Int) (n : Nat) : inN a n = false ↔ ¬ a.toNat < n := by simp [inN]
theorem ap_arith (op : BinOp) (k : IntKind) (a b : GU) : (O2.arith op k).ap a b = .int (arithInt op k a.toInt b.toInt) := rfl
theorem ap_bits (op : BinOp) (k : IntKind) (a b : GU) : (O2.bits op k).ap a b = .int (bitsInt op k a.toInt b.toInt) := rfl
theorem ap_div (op : BinOp) (k : IntKind) (a b : GU) : (O2.div op k).ap a b = .int (divInt op k a.toInt b.toInt) := rfl
theorem ap_shift (op : BinOp) (k : IntKind) (a b : GU) : (O2.shift op k).ap a b = .int (shiftInt op k a.toInt b.toInt) := rfl
theorem ap_eql (a b : GU) : O2.eql.ap a b = .bool (a.toInt == b.toInt) := rfl
theorem ap_lss (a b : GU) : O2.lss.ap a b = .bool (ltI a.toInt b.toInt) := rfl
theorem ap_beq (a b : GU) : O2.beq.ap a b = .bool (a.toBool == b.toBool) := rfl
theorem ap_min (a b : GU) : O2.min.ap a b = .int (mn a.toInt b.toInt) := rfl
theorem ap_max (a b : GU) : O2.max.ap a b = .int (mx a.toInt b.toInt) := rfl
theorem ap_nthI (a b : GU) : O2.nthI.ap a b = .int (a.toInts.getD b.toInt.toNat 0) := rfl
theorem ap_nthB (a b : GU) : O2.nthB.ap a b = .bool (a.toBools.getD b.toInt.toNat false) := rfl
theorem ap_inI (a b : GU) : O2.inI.ap a b = .bool (inN b.toInt a.toInts.length) := rfl
theorem ap_inB (a b : GU) : O2.inB.ap a b = .bool (inN b.toInt a.toBools.length) := rfl

end Go.Fl
namespace Go.Fl
open Go Go.Sx Go.Proofs
variable [ExtF]

end Go.Fl

/- Templates, level 1, shown. The lists of ways are printed by a program of mine; the kernel reckons each anew. -/
namespace Go.Fl
open Go Go.Sx Go.Proofs
variable [ExtF]
set_option linter.unusedSimpArgs false
set_option maxRecDepth 100000

theorem tHandle_ok : tHandle.ok SG prog 115 := by
  refine pure_ok (cs := [⟨true, .tup [.agg [.int .i64 (.int 0), .int .i64 (.int 0)], .c (.bool (.bool false))], [], 2, [((.o2 .eql (.o2 (.shift .shr .u64) (.var 0) (.int 16)) (.int 0)), true), ((.o2 .eql (.o2 (.shift .shr .u64) (.var 0) (.int 32)) (.int 0)), true)]⟩,
    ⟨true, .tup [.agg [.int .i64 (.o1 (.conv .i64) (.o2 (.bits .and .u64) (.var 0) (.int 65535))), .int .i64 (.o1 (.conv .i64) (.o2 (.shift .shr .u64) (.var 0) (.int 16)))], .c (.bool (.bool true))], [], 2, [((.o2 .eql (.o2 (.shift .shr .u64) (.var 0) (.int 16)) (.int 0)), false), ((.o2 .eql (.o2 (.shift .shr .u64) (.var 0) (.int 32)) (.int 0)), true)]⟩,
    ⟨true, .tup [.agg [.int .i64 (.int 0), .int .i64 (.int 0)], .c (.bool (.bool false))], [], 2, [((.o2 .eql (.o2 (.shift .shr .u64) (.var 0) (.int 32)) (.int 0)), false)]⟩]) nop_ok (by kernel_rfl) ?_
  refine allC_cons (fun v hp => ⟨rfl, fun n hn => ?_⟩) ?_
  · subst hn
    simp only [pt_nil, pt_cons, E.den, O1.ap, ap_arith, ap_bits, ap_div, ap_shift, ap_eql, ap_lss, ap_beq, ap_min, ap_max, ap_nthI, ap_nthB, ap_inI, ap_inB, G.toInt_int, G.toBool_bool, and_true] at hp
    simp only [SV.den, S2.den, S1.den, cellsDen, cfgE, aggI, iE, uE, bE, v0, v1, v2, v3, v4, List.map, E.den, sg_f1, sg_f2, sg_f3, sg_f4, F1, F2, F3, F4, O1.ap, ap_arith, ap_bits, ap_div, ap_shift, ap_eql, ap_lss, ap_beq, ap_min, ap_max, ap_nthI, ap_nthB, ap_inI, ap_inB, G.toInt_int, G.toBool_bool]
    first | rfl | (simp_all [handleSlot, handleGen, handleOk, cellVer, cellFrozen, cellValue, ownBit, putHead0, putCell, classOf, roomOf, putLink, live, i64, shr, band, bor, shl, fit, u64, mx, mn]; done) | (simp_all [handleSlot, handleGen, handleOk, cellVer, cellFrozen, cellValue, ownBit, putHead0, putCell, classOf, roomOf, putLink, live, i64, shr, band, bor, shl, fit, u64, mx, mn]; try omega)
  refine allC_cons (fun v hp => ⟨rfl, fun n hn => ?_⟩) ?_
  · subst hn
    simp only [pt_nil, pt_cons, E.den, O1.ap, ap_arith, ap_bits, ap_div, ap_shift, ap_eql, ap_lss, ap_beq, ap_min, ap_max, ap_nthI, ap_nthB, ap_inI, ap_inB, G.toInt_int, G.toBool_bool, and_true] at hp
    simp only [SV.den, S2.den, S1.den, cellsDen, cfgE, aggI, iE, uE, bE, v0, v1, v2, v3, v4, List.map, E.den, sg_f1, sg_f2, sg_f3, sg_f4, F1, F2, F3, F4, O1.ap, ap_arith, ap_bits, ap_div, ap_shift, ap_eql, ap_lss, ap_beq, ap_min, ap_max, ap_nthI, ap_nthB, ap_inI, ap_inB, G.toInt_int, G.toBool_bool]
    first | rfl | (simp_all [handleSlot, handleGen, handleOk, cellVer, cellFrozen, cellValue, ownBit, putHead0, putCell, classOf, roomOf, putLink, live, i64, shr, band, bor, shl, fit, u64, mx, mn]; done) | (simp_all [handleSlot, handleGen, handleOk, cellVer, cellFrozen, cellValue, ownBit, putHead0, putCell, classOf, roomOf, putLink, live, i64, shr, band, bor, shl, fit, u64, mx, mn]; try omega)
  refine allC_cons (fun v hp => ⟨rfl, fun n hn => ?_⟩) ?_
  · subst hn
    simp only [pt_nil, pt_cons, E.den, O1.ap, ap_arith, ap_bits, ap_div, ap_shift, ap_eql, ap_lss, ap_beq, ap_min, ap_max, ap_nthI, ap_nthB, ap_inI, ap_inB, G.toInt_int, G.toBool_bool, and_true] at hp
    simp only [SV.den, S2.den, S1.den, cellsDen, cfgE, aggI, iE, uE, bE, v0, v1, v2, v3, v4, List.map, E.den, sg_f1, sg_f2, sg_f3, sg_f4, F1, F2, F3, F4, O1.ap, ap_arith, ap_bits, ap_div, ap_shift, ap_eql, ap_lss, ap_beq, ap_min, ap_max, ap_nthI, ap_nthB, ap_inI, ap_inB, G.toInt_int, G.toBool_bool]
    first | rfl | (simp_all [handleSlot, handleGen, handleOk, cellVer, cellFrozen, cellValue, ownBit, putHead0, putCell, classOf, roomOf, putLink, live, i64, shr, band, bor, shl, fit, u64, mx, mn]; done) | (simp_all [handleSlot, handleGen, handleOk, cellVer, cellFrozen, cellValue, ownBit, putHead0, putCell, classOf, roomOf, putLink, live, i64, shr, band, bor, shl, fit, u64, mx, mn]; try omega)
  exact allC_nil _

theorem tCell_ok : tCell.ok SG prog 116 := by
  refine pure_ok (cs := [⟨true, .one (.agg [.int .i64 (.o1 (.conv .i64) (.o2 (.bits .and .u64) (.var 0) (.int 1099511627775))), .bool (.o2 .eql (.o2 (.shift .shr .u64) (.var 0) (.int 63)) (.int 1)), .int .i64 (.o1 (.conv .i64) (.o2 (.bits .and .u64) (.o2 (.shift .shr .u64) (.var 0) (.int 40)) (.int 4194303)))]), [], 3, [((.o2 .eql (.o2 (.shift .shr .u64) (.var 0) (.int 63)) (.int 1)), true)]⟩,
    ⟨true, .one (.agg [.int .i64 (.o1 (.conv .i64) (.o2 (.bits .and .u64) (.var 0) (.int 1099511627775))), .bool (.o2 .eql (.o2 (.shift .shr .u64) (.var 0) (.int 63)) (.int 1)), .int .i64 (.int 0)]), [], 3, [((.o2 .eql (.o2 (.shift .shr .u64) (.var 0) (.int 63)) (.int 1)), false)]⟩]) nop_ok (by kernel_rfl) ?_
  refine allC_cons (fun v hp => ⟨rfl, fun n hn => ?_⟩) ?_
  · subst hn
    simp only [pt_nil, pt_cons, E.den, O1.ap, ap_arith, ap_bits, ap_div, ap_shift, ap_eql, ap_lss, ap_beq, ap_min, ap_max, ap_nthI, ap_nthB, ap_inI, ap_inB, G.toInt_int, G.toBool_bool, and_true] at hp
    simp only [SV.den, S2.den, S1.den, cellsDen, cfgE, aggI, iE, uE, bE, v0, v1, v2, v3, v4, List.map, E.den, sg_f1, sg_f2, sg_f3, sg_f4, F1, F2, F3, F4, O1.ap, ap_arith, ap_bits, ap_div, ap_shift, ap_eql, ap_lss, ap_beq, ap_min, ap_max, ap_nthI, ap_nthB, ap_inI, ap_inB, G.toInt_int, G.toBool_bool]
    first | rfl | (simp_all [handleSlot, handleGen, handleOk, cellVer, cellFrozen, cellValue, ownBit, putHead0, putCell, classOf, roomOf, putLink, live, i64, shr, band, bor, shl, fit, u64, mx, mn]; done) | (simp_all [handleSlot, handleGen, handleOk, cellVer, cellFrozen, cellValue, ownBit, putHead0, putCell, classOf, roomOf, putLink, live, i64, shr, band, bor, shl, fit, u64, mx, mn]; try omega)
  refine allC_cons (fun v hp => ⟨rfl, fun n hn => ?_⟩) ?_
  · subst hn
    simp only [pt_nil, pt_cons, E.den, O1.ap, ap_arith, ap_bits, ap_div, ap_shift, ap_eql, ap_lss, ap_beq, ap_min, ap_max, ap_nthI, ap_nthB, ap_inI, ap_inB, G.toInt_int, G.toBool_bool, and_true] at hp
    simp only [SV.den, S2.den, S1.den, cellsDen, cfgE, aggI, iE, uE, bE, v0, v1, v2, v3, v4, List.map, E.den, sg_f1, sg_f2, sg_f3, sg_f4, F1, F2, F3, F4, O1.ap, ap_arith, ap_bits, ap_div, ap_shift, ap_eql, ap_lss, ap_beq, ap_min, ap_max, ap_nthI, ap_nthB, ap_inI, ap_inB, G.toInt_int, G.toBool_bool]
    first | rfl | (simp_all [handleSlot, handleGen, handleOk, cellVer, cellFrozen, cellValue, ownBit, putHead0, putCell, classOf, roomOf, putLink, live, i64, shr, band, bor, shl, fit, u64, mx, mn]; done) | (simp_all [handleSlot, handleGen, handleOk, cellVer, cellFrozen, cellValue, ownBit, putHead0, putCell, classOf, roomOf, putLink, live, i64, shr, band, bor, shl, fit, u64, mx, mn]; try omega)
  exact allC_nil _

theorem tSlot_ok : tSlot.ok SG prog 117 := by
  refine pure_ok (cs := [⟨true, .one (.agg [.int .i64 (.o1 (.conv .i64) (.o2 (.bits .and .u64) (.var 0) (.int 7))), .int .i64 (.o1 (.conv .i64) (.o2 (.bits .and .u64) (.o2 (.shift .shr .u64) (.var 0) (.int 3)) (.int 1048575))), .int .i64 (.o1 (.conv .i64) (.o2 (.bits .and .u64) (.o2 (.shift .shr .u64) (.var 0) (.int 23)) (.int 65535))), .int .i64 (.o1 (.conv .i64) (.o2 (.bits .and .u64) (.o2 (.shift .shr .u64) (.var 0) (.int 39)) (.int 4194303)))]), [], 2, []⟩]) nop_ok (by kernel_rfl) ?_
  refine allC_cons (fun v hp => ⟨rfl, fun n hn => ?_⟩) ?_
  · subst hn
    simp only [pt_nil, pt_cons, E.den, O1.ap, ap_arith, ap_bits, ap_div, ap_shift, ap_eql, ap_lss, ap_beq, ap_min, ap_max, ap_nthI, ap_nthB, ap_inI, ap_inB, G.toInt_int, G.toBool_bool, and_true] at hp
    simp only [SV.den, S2.den, S1.den, cellsDen, cfgE, aggI, iE, uE, bE, v0, v1, v2, v3, v4, List.map, E.den, sg_f1, sg_f2, sg_f3, sg_f4, F1, F2, F3, F4, O1.ap, ap_arith, ap_bits, ap_div, ap_shift, ap_eql, ap_lss, ap_beq, ap_min, ap_max, ap_nthI, ap_nthB, ap_inI, ap_inB, G.toInt_int, G.toBool_bool]
    first | rfl | (simp_all [handleSlot, handleGen, handleOk, cellVer, cellFrozen, cellValue, ownBit, putHead0, putCell, classOf, roomOf, putLink, live, i64, shr, band, bor, shl, fit, u64, mx, mn]; done) | (simp_all [handleSlot, handleGen, handleOk, cellVer, cellFrozen, cellValue, ownBit, putHead0, putCell, classOf, roomOf, putLink, live, i64, shr, band, bor, shl, fit, u64, mx, mn]; try omega)
  exact allC_nil _

theorem tChunk_ok : tChunk.ok SG prog 160 := by
  refine pure_ok (cs := [⟨true, .one (.agg [.int .i64 (.o1 (.conv .i64) (.o2 (.bits .and .u64) (.var 0) (.int 3))), .int .i64 (.o1 (.conv .i64) (.o2 (.bits .and .u64) (.o2 (.shift .shr .u64) (.var 0) (.int 2)) (.int 63))), .int .i64 (.o1 (.conv .i64) (.o2 (.bits .and .u64) (.o2 (.shift .shr .u64) (.var 0) (.int 8)) (.int 1048575))), .int .i64 (.o1 (.conv .i64) (.o2 (.bits .and .u64) (.o2 (.shift .shr .u64) (.var 0) (.int 28)) (.int 68719476735)))]), [], 2, []⟩]) nop_ok (by kernel_rfl) ?_
  refine allC_cons (fun v hp => ⟨rfl, fun n hn => ?_⟩) ?_
  · subst hn
    simp only [pt_nil, pt_cons, E.den, O1.ap, ap_arith, ap_bits, ap_div, ap_shift, ap_eql, ap_lss, ap_beq, ap_min, ap_max, ap_nthI, ap_nthB, ap_inI, ap_inB, G.toInt_int, G.toBool_bool, and_true] at hp
    simp only [SV.den, S2.den, S1.den, cellsDen, cfgE, aggI, iE, uE, bE, v0, v1, v2, v3, v4, List.map, E.den, sg_f1, sg_f2, sg_f3, sg_f4, F1, F2, F3, F4, O1.ap, ap_arith, ap_bits, ap_div, ap_shift, ap_eql, ap_lss, ap_beq, ap_min, ap_max, ap_nthI, ap_nthB, ap_inI, ap_inB, G.toInt_int, G.toBool_bool]
    first | rfl | (simp_all [handleSlot, handleGen, handleOk, cellVer, cellFrozen, cellValue, ownBit, putHead0, putCell, classOf, roomOf, putLink, live, i64, shr, band, bor, shl, fit, u64, mx, mn]; done) | (simp_all [handleSlot, handleGen, handleOk, cellVer, cellFrozen, cellValue, ownBit, putHead0, putCell, classOf, roomOf, putLink, live, i64, shr, band, bor, shl, fit, u64, mx, mn]; try omega)
  exact allC_nil _

theorem tHead_ok : tHead.ok SG prog 207 := by
  refine pure_ok (cs := [⟨true, .one (.agg [.int .i64 (.o1 (.conv .i64) (.o2 (.bits .and .u64) (.var 0) (.int 3))), .int .i64 (.o1 (.conv .i64) (.o2 (.bits .and .u64) (.o2 (.shift .shr .u64) (.var 0) (.int 2)) (.int 65535))), .int .i64 (.o1 (.conv .i64) (.o2 (.bits .and .u64) (.o2 (.shift .shr .u64) (.var 0) (.int 18)) (.int 65535))), .int .i64 (.o1 (.conv .i64) (.o2 (.bits .and .u64) (.o2 (.shift .shr .u64) (.var 0) (.int 34)) (.int 65535))), .bool (.o2 .eql (.o2 (.bits .and .u64) (.o2 (.shift .shr .u64) (.var 0) (.int 50)) (.int 1)) (.int 1))]), [], 2, []⟩]) nop_ok (by kernel_rfl) ?_
  refine allC_cons (fun v hp => ⟨rfl, fun n hn => ?_⟩) ?_
  · subst hn
    simp only [pt_nil, pt_cons, E.den, O1.ap, ap_arith, ap_bits, ap_div, ap_shift, ap_eql, ap_lss, ap_beq, ap_min, ap_max, ap_nthI, ap_nthB, ap_inI, ap_inB, G.toInt_int, G.toBool_bool, and_true] at hp
    simp only [SV.den, S2.den, S1.den, cellsDen, cfgE, aggI, iE, uE, bE, v0, v1, v2, v3, v4, List.map, E.den, sg_f1, sg_f2, sg_f3, sg_f4, F1, F2, F3, F4, O1.ap, ap_arith, ap_bits, ap_div, ap_shift, ap_eql, ap_lss, ap_beq, ap_min, ap_max, ap_nthI, ap_nthB, ap_inI, ap_inB, G.toInt_int, G.toBool_bool]
    first | rfl | (simp_all [handleSlot, handleGen, handleOk, cellVer, cellFrozen, cellValue, ownBit, putHead0, putCell, classOf, roomOf, putLink, live, i64, shr, band, bor, shl, fit, u64, mx, mn]; done) | (simp_all [handleSlot, handleGen, handleOk, cellVer, cellFrozen, cellValue, ownBit, putHead0, putCell, classOf, roomOf, putLink, live, i64, shr, band, bor, shl, fit, u64, mx, mn]; try omega)
  exact allC_nil _

theorem tTop_ok : tTop.ok SG prog 224 := by
  refine pure_ok (cs := [⟨true, .tup [.c (.int .i64 (.o2 (.arith .sub .i64) (.o1 (.conv .i64) (.o2 (.bits .and .u64) (.var 0) (.int 131071))) (.int 1))), .c (.int .i64 (.o1 (.conv .i64) (.o2 (.bits .and .u64) (.o2 (.shift .shr .u64) (.var 0) (.int 17)) (.int 68719476735))))], [], 1, []⟩]) nop_ok (by kernel_rfl) ?_
  refine allC_cons (fun v hp => ⟨rfl, fun n hn => ?_⟩) ?_
  · subst hn
    simp only [pt_nil, pt_cons, E.den, O1.ap, ap_arith, ap_bits, ap_div, ap_shift, ap_eql, ap_lss, ap_beq, ap_min, ap_max, ap_nthI, ap_nthB, ap_inI, ap_inB, G.toInt_int, G.toBool_bool, and_true] at hp
    simp only [SV.den, S2.den, S1.den, cellsDen, cfgE, aggI, iE, uE, bE, v0, v1, v2, v3, v4, List.map, E.den, sg_f1, sg_f2, sg_f3, sg_f4, F1, F2, F3, F4, O1.ap, ap_arith, ap_bits, ap_div, ap_shift, ap_eql, ap_lss, ap_beq, ap_min, ap_max, ap_nthI, ap_nthB, ap_inI, ap_inB, G.toInt_int, G.toBool_bool]
    first | rfl | (simp_all [handleSlot, handleGen, handleOk, cellVer, cellFrozen, cellValue, ownBit, putHead0, putCell, classOf, roomOf, putLink, live, i64, shr, band, bor, shl, fit, u64, mx, mn]; done) | (simp_all [handleSlot, handleGen, handleOk, cellVer, cellFrozen, cellValue, ownBit, putHead0, putCell, classOf, roomOf, putLink, live, i64, shr, band, bor, shl, fit, u64, mx, mn]; try omega)
  exact allC_nil _

theorem tPutHandle_ok : tPutHandle.ok SG prog 201 := by
  refine pure_ok (cs := [⟨true, .one (.c (.int .u64 (.o2 (.bits .or .u64) (.o1 (.conv .u64) (.o2 .min (.o2 .max (.var 0) (.int 0)) (.int 65535))) (.o2 (.shift .shl .u64) (.o1 (.conv .u64) (.o2 .min (.o2 .max (.var 1) (.int 0)) (.int 65535))) (.int 16))))), [], 11, []⟩]) nop_ok (by kernel_rfl) ?_
  refine allC_cons (fun v hp => ⟨rfl, fun n hn => ?_⟩) ?_
  · subst hn
    simp only [pt_nil, pt_cons, E.den, O1.ap, ap_arith, ap_bits, ap_div, ap_shift, ap_eql, ap_lss, ap_beq, ap_min, ap_max, ap_nthI, ap_nthB, ap_inI, ap_inB, G.toInt_int, G.toBool_bool, and_true] at hp
    simp only [SV.den, S2.den, S1.den, cellsDen, cfgE, aggI, iE, uE, bE, v0, v1, v2, v3, v4, List.map, E.den, sg_f1, sg_f2, sg_f3, sg_f4, F1, F2, F3, F4, O1.ap, ap_arith, ap_bits, ap_div, ap_shift, ap_eql, ap_lss, ap_beq, ap_min, ap_max, ap_nthI, ap_nthB, ap_inI, ap_inB, G.toInt_int, G.toBool_bool]
    first | rfl | (simp_all [handleSlot, handleGen, handleOk, cellVer, cellFrozen, cellValue, ownBit, putHead0, putCell, classOf, roomOf, putLink, live, i64, shr, band, bor, shl, fit, u64, mx, mn]; done) | (simp_all [handleSlot, handleGen, handleOk, cellVer, cellFrozen, cellValue, ownBit, putHead0, putCell, classOf, roomOf, putLink, live, i64, shr, band, bor, shl, fit, u64, mx, mn]; try omega)
  exact allC_nil _

theorem tPutSlot_ok : tPutSlot.ok SG prog 210 := by
  refine pure_ok (cs := [⟨true, .one (.c (.int .u64 (.o2 (.bits .or .u64) (.o2 (.bits .or .u64) (.o2 (.bits .or .u64) (.o1 (.conv .u64) (.o2 .min (.o2 .max (.var 0) (.int 0)) (.int 7))) (.o2 (.shift .shl .u64) (.o1 (.conv .u64) (.o2 .min (.o2 .max (.var 1) (.int 0)) (.int 1048575))) (.int 3))) (.o2 (.shift .shl .u64) (.o1 (.conv .u64) (.o2 .min (.o2 .max (.var 2) (.int 0)) (.int 65535))) (.int 23))) (.o2 (.shift .shl .u64) (.o1 (.conv .u64) (.o2 .min (.o2 .max (.var 3) (.int 0)) (.int 4194303))) (.int 39))))), [], 21, []⟩]) nop_ok (by kernel_rfl) ?_
  refine allC_cons (fun v hp => ⟨rfl, fun n hn => ?_⟩) ?_
  · subst hn
    simp only [pt_nil, pt_cons, E.den, O1.ap, ap_arith, ap_bits, ap_div, ap_shift, ap_eql, ap_lss, ap_beq, ap_min, ap_max, ap_nthI, ap_nthB, ap_inI, ap_inB, G.toInt_int, G.toBool_bool, and_true] at hp
    simp only [SV.den, S2.den, S1.den, cellsDen, cfgE, aggI, iE, uE, bE, v0, v1, v2, v3, v4, List.map, E.den, sg_f1, sg_f2, sg_f3, sg_f4, F1, F2, F3, F4, O1.ap, ap_arith, ap_bits, ap_div, ap_shift, ap_eql, ap_lss, ap_beq, ap_min, ap_max, ap_nthI, ap_nthB, ap_inI, ap_inB, G.toInt_int, G.toBool_bool]
    first | rfl | (simp_all [handleSlot, handleGen, handleOk, cellVer, cellFrozen, cellValue, ownBit, putHead0, putCell, classOf, roomOf, putLink, live, i64, shr, band, bor, shl, fit, u64, mx, mn]; done) | (simp_all [handleSlot, handleGen, handleOk, cellVer, cellFrozen, cellValue, ownBit, putHead0, putCell, classOf, roomOf, putLink, live, i64, shr, band, bor, shl, fit, u64, mx, mn]; try omega)
  exact allC_nil _

theorem tPutChunk_ok : tPutChunk.ok SG prog 225 := by
  refine pure_ok (cs := [⟨true, .one (.c (.int .u64 (.o2 (.bits .or .u64) (.o2 (.bits .or .u64) (.o2 (.bits .or .u64) (.o1 (.conv .u64) (.o2 .min (.o2 .max (.var 0) (.int 0)) (.int 3))) (.o2 (.shift .shl .u64) (.o1 (.conv .u64) (.o2 .min (.o2 .max (.var 1) (.int 0)) (.int 63))) (.int 2))) (.o2 (.shift .shl .u64) (.o1 (.conv .u64) (.o2 .min (.o2 .max (.var 2) (.int 0)) (.int 1048575))) (.int 8))) (.o2 (.shift .shl .u64) (.o1 (.conv .u64) (.o2 .min (.o2 .max (.var 3) (.int 0)) (.int 68719476735))) (.int 28))))), [], 21, []⟩]) nop_ok (by kernel_rfl) ?_
  refine allC_cons (fun v hp => ⟨rfl, fun n hn => ?_⟩) ?_
  · subst hn
    simp only [pt_nil, pt_cons, E.den, O1.ap, ap_arith, ap_bits, ap_div, ap_shift, ap_eql, ap_lss, ap_beq, ap_min, ap_max, ap_nthI, ap_nthB, ap_inI, ap_inB, G.toInt_int, G.toBool_bool, and_true] at hp
    simp only [SV.den, S2.den, S1.den, cellsDen, cfgE, aggI, iE, uE, bE, v0, v1, v2, v3, v4, List.map, E.den, sg_f1, sg_f2, sg_f3, sg_f4, F1, F2, F3, F4, O1.ap, ap_arith, ap_bits, ap_div, ap_shift, ap_eql, ap_lss, ap_beq, ap_min, ap_max, ap_nthI, ap_nthB, ap_inI, ap_inB, G.toInt_int, G.toBool_bool]
    first | rfl | (simp_all [handleSlot, handleGen, handleOk, cellVer, cellFrozen, cellValue, ownBit, putHead0, putCell, classOf, roomOf, putLink, live, i64, shr, band, bor, shl, fit, u64, mx, mn]; done) | (simp_all [handleSlot, handleGen, handleOk, cellVer, cellFrozen, cellValue, ownBit, putHead0, putCell, classOf, roomOf, putLink, live, i64, shr, band, bor, shl, fit, u64, mx, mn]; try omega)
  exact allC_nil _

theorem tPutHead_ok : tPutHead.ok SG prog 267 := by
  refine pure_ok (cs := [⟨true, .one (.c (.int .u64 (.o2 (.bits .or .u64) (.o2 (.bits .or .u64) (.o2 (.bits .or .u64) (.o2 (.bits .or .u64) (.o1 (.conv .u64) (.o2 .min (.o2 .max (.var 0) (.int 0)) (.int 3))) (.o2 (.shift .shl .u64) (.o1 (.conv .u64) (.o2 .min (.o2 .max (.var 1) (.int 0)) (.int 65535))) (.int 2))) (.o2 (.shift .shl .u64) (.o1 (.conv .u64) (.o2 .min (.o2 .max (.var 2) (.int 0)) (.int 65535))) (.int 18))) (.o2 (.shift .shl .u64) (.o1 (.conv .u64) (.o2 .min (.o2 .max (.var 3) (.int 0)) (.int 65535))) (.int 34))) (.int 1125899906842624)))), [], 21, [((.var 4), true)]⟩,
    ⟨true, .one (.c (.int .u64 (.o2 (.bits .or .u64) (.o2 (.bits .or .u64) (.o2 (.bits .or .u64) (.o1 (.conv .u64) (.o2 .min (.o2 .max (.var 0) (.int 0)) (.int 3))) (.o2 (.shift .shl .u64) (.o1 (.conv .u64) (.o2 .min (.o2 .max (.var 1) (.int 0)) (.int 65535))) (.int 2))) (.o2 (.shift .shl .u64) (.o1 (.conv .u64) (.o2 .min (.o2 .max (.var 2) (.int 0)) (.int 65535))) (.int 18))) (.o2 (.shift .shl .u64) (.o1 (.conv .u64) (.o2 .min (.o2 .max (.var 3) (.int 0)) (.int 65535))) (.int 34))))), [], 21, [((.var 4), false)]⟩]) nop_ok (by kernel_rfl) ?_
  refine allC_cons (fun v hp => ⟨rfl, fun n hn => ?_⟩) ?_
  · subst hn
    simp only [pt_nil, pt_cons, E.den, O1.ap, ap_arith, ap_bits, ap_div, ap_shift, ap_eql, ap_lss, ap_beq, ap_min, ap_max, ap_nthI, ap_nthB, ap_inI, ap_inB, G.toInt_int, G.toBool_bool, and_true] at hp
    simp only [SV.den, S2.den, S1.den, cellsDen, cfgE, aggI, iE, uE, bE, v0, v1, v2, v3, v4, List.map, E.den, sg_f1, sg_f2, sg_f3, sg_f4, F1, F2, F3, F4, O1.ap, ap_arith, ap_bits, ap_div, ap_shift, ap_eql, ap_lss, ap_beq, ap_min, ap_max, ap_nthI, ap_nthB, ap_inI, ap_inB, G.toInt_int, G.toBool_bool]
    first | rfl | (simp_all [handleSlot, handleGen, handleOk, cellVer, cellFrozen, cellValue, ownBit, putHead0, putCell, classOf, roomOf, putLink, live, i64, shr, band, bor, shl, fit, u64, mx, mn]; done) | (simp_all [handleSlot, handleGen, handleOk, cellVer, cellFrozen, cellValue, ownBit, putHead0, putCell, classOf, roomOf, putLink, live, i64, shr, band, bor, shl, fit, u64, mx, mn]; try omega)
  refine allC_cons (fun v hp => ⟨rfl, fun n hn => ?_⟩) ?_
  · subst hn
    simp only [pt_nil, pt_cons, E.den, O1.ap, ap_arith, ap_bits, ap_div, ap_shift, ap_eql, ap_lss, ap_beq, ap_min, ap_max, ap_nthI, ap_nthB, ap_inI, ap_inB, G.toInt_int, G.toBool_bool, and_true] at hp
    simp only [SV.den, S2.den, S1.den, cellsDen, cfgE, aggI, iE, uE, bE, v0, v1, v2, v3, v4, List.map, E.den, sg_f1, sg_f2, sg_f3, sg_f4, F1, F2, F3, F4, O1.ap, ap_arith, ap_bits, ap_div, ap_shift, ap_eql, ap_lss, ap_beq, ap_min, ap_max, ap_nthI, ap_nthB, ap_inI, ap_inB, G.toInt_int, G.toBool_bool]
    first | rfl | (simp_all [handleSlot, handleGen, handleOk, cellVer, cellFrozen, cellValue, ownBit, putHead0, putCell, classOf, roomOf, putLink, live, i64, shr, band, bor, shl, fit, u64, mx, mn]; done) | (simp_all [handleSlot, handleGen, handleOk, cellVer, cellFrozen, cellValue, ownBit, putHead0, putCell, classOf, roomOf, putLink, live, i64, shr, band, bor, shl, fit, u64, mx, mn]; try omega)
  exact allC_nil _

theorem tPutCell_ok : tPutCell.ok SG prog 237 := by
  refine pure_ok (cs := [⟨true, .one (.c (.int .u64 (.o2 (.bits .or .u64) (.o1 (.conv .u64) (.o2 .min (.o2 .max (.var 0) (.int 0)) (.int 1099511627775))) (.o2 (.bits .or .u64) (.int 9223372036854775808) (.o2 (.shift .shl .u64) (.o1 (.conv .u64) (.o2 .min (.o2 .max (.var 2) (.int 0)) (.int 4194303))) (.int 40)))))), [], 2, [((.var 1), true)]⟩,
    ⟨true, .one (.c (.int .u64 (.o1 (.conv .u64) (.o2 .min (.o2 .max (.var 0) (.int 0)) (.int 1099511627775))))), [], 2, [((.var 1), false)]⟩]) nop_ok (by kernel_rfl) ?_
  refine allC_cons (fun v hp => ⟨rfl, fun n hn => ?_⟩) ?_
  · subst hn
    simp only [pt_nil, pt_cons, E.den, O1.ap, ap_arith, ap_bits, ap_div, ap_shift, ap_eql, ap_lss, ap_beq, ap_min, ap_max, ap_nthI, ap_nthB, ap_inI, ap_inB, G.toInt_int, G.toBool_bool, and_true] at hp
    simp only [SV.den, S2.den, S1.den, cellsDen, cfgE, aggI, iE, uE, bE, v0, v1, v2, v3, v4, List.map, E.den, sg_f1, sg_f2, sg_f3, sg_f4, F1, F2, F3, F4, O1.ap, ap_arith, ap_bits, ap_div, ap_shift, ap_eql, ap_lss, ap_beq, ap_min, ap_max, ap_nthI, ap_nthB, ap_inI, ap_inB, G.toInt_int, G.toBool_bool]
    first | rfl | (simp_all [handleSlot, handleGen, handleOk, cellVer, cellFrozen, cellValue, ownBit, putHead0, putCell, classOf, roomOf, putLink, live, i64, shr, band, bor, shl, fit, u64, mx, mn]; done) | (simp_all [handleSlot, handleGen, handleOk, cellVer, cellFrozen, cellValue, ownBit, putHead0, putCell, classOf, roomOf, putLink, live, i64, shr, band, bor, shl, fit, u64, mx, mn]; try omega)
  refine allC_cons (fun v hp => ⟨rfl, fun n hn => ?_⟩) ?_
  · subst hn
    simp only [pt_nil, pt_cons, E.den, O1.ap, ap_arith, ap_bits, ap_div, ap_shift, ap_eql, ap_lss, ap_beq, ap_min, ap_max, ap_nthI, ap_nthB, ap_inI, ap_inB, G.toInt_int, G.toBool_bool, and_true] at hp
    simp only [SV.den, S2.den, S1.den, cellsDen, cfgE, aggI, iE, uE, bE, v0, v1, v2, v3, v4, List.map, E.den, sg_f1, sg_f2, sg_f3, sg_f4, F1, F2, F3, F4, O1.ap, ap_arith, ap_bits, ap_div, ap_shift, ap_eql, ap_lss, ap_beq, ap_min, ap_max, ap_nthI, ap_nthB, ap_inI, ap_inB, G.toInt_int, G.toBool_bool]
    first | rfl | (simp_all [handleSlot, handleGen, handleOk, cellVer, cellFrozen, cellValue, ownBit, putHead0, putCell, classOf, roomOf, putLink, live, i64, shr, band, bor, shl, fit, u64, mx, mn]; done) | (simp_all [handleSlot, handleGen, handleOk, cellVer, cellFrozen, cellValue, ownBit, putHead0, putCell, classOf, roomOf, putLink, live, i64, shr, band, bor, shl, fit, u64, mx, mn]; try omega)
  exact allC_nil _

theorem tPutTop_ok : tPutTop.ok SG prog 211 := by
  refine pure_ok (cs := [⟨true, .one (.c (.int .u64 (.o2 (.bits .or .u64) (.o1 (.conv .u64) (.o2 .min (.o2 .max (.o2 (.arith .add .i64) (.o2 .min (.var 0) (.int 65535)) (.int 1)) (.int 0)) (.int 65536))) (.o2 (.shift .shl .u64) (.o1 (.conv .u64) (.o2 .min (.o2 .max (.var 1) (.int 0)) (.int 68719476735))) (.int 17))))), [], 1, []⟩]) nop_ok (by kernel_rfl) ?_
  refine allC_cons (fun v hp => ⟨rfl, fun n hn => ?_⟩) ?_
  · subst hn
    simp only [pt_nil, pt_cons, E.den, O1.ap, ap_arith, ap_bits, ap_div, ap_shift, ap_eql, ap_lss, ap_beq, ap_min, ap_max, ap_nthI, ap_nthB, ap_inI, ap_inB, G.toInt_int, G.toBool_bool, and_true] at hp
    simp only [SV.den, S2.den, S1.den, cellsDen, cfgE, aggI, iE, uE, bE, v0, v1, v2, v3, v4, List.map, E.den, sg_f1, sg_f2, sg_f3, sg_f4, F1, F2, F3, F4, O1.ap, ap_arith, ap_bits, ap_div, ap_shift, ap_eql, ap_lss, ap_beq, ap_min, ap_max, ap_nthI, ap_nthB, ap_inI, ap_inB, G.toInt_int, G.toBool_bool]
    first | rfl | (simp_all [handleSlot, handleGen, handleOk, cellVer, cellFrozen, cellValue, ownBit, putHead0, putCell, classOf, roomOf, putLink, live, i64, shr, band, bor, shl, fit, u64, mx, mn]; done) | (simp_all [handleSlot, handleGen, handleOk, cellVer, cellFrozen, cellValue, ownBit, putHead0, putCell, classOf, roomOf, putLink, live, i64, shr, band, bor, shl, fit, u64, mx, mn]; try omega)
  exact allC_nil _

theorem tSlotAt_ok : tSlotAt.ok SG prog 98 := by
  refine pure_ok (cs := [⟨true, .one (.c (.int .i64 (.o2 (.arith .add .i64) (.o2 (.arith .add .i64) (.int 6) (.f1 0 (.var 0))) (.o2 (.arith .mul .i64) (.int 2) (.var 1))))), [], 2, []⟩]) nop_ok (by kernel_rfl) ?_
  refine allC_cons (fun v hp => ⟨rfl, fun n hn => ?_⟩) ?_
  · subst hn
    simp only [pt_nil, pt_cons, E.den, O1.ap, ap_arith, ap_bits, ap_div, ap_shift, ap_eql, ap_lss, ap_beq, ap_min, ap_max, ap_nthI, ap_nthB, ap_inI, ap_inB, G.toInt_int, G.toBool_bool, and_true] at hp
    simp only [SV.den, S2.den, S1.den, cellsDen, cfgE, aggI, iE, uE, bE, v0, v1, v2, v3, v4, List.map, E.den, sg_f1, sg_f2, sg_f3, sg_f4, F1, F2, F3, F4, O1.ap, ap_arith, ap_bits, ap_div, ap_shift, ap_eql, ap_lss, ap_beq, ap_min, ap_max, ap_nthI, ap_nthB, ap_inI, ap_inB, G.toInt_int, G.toBool_bool]
    first | rfl | (simp_all [handleSlot, handleGen, handleOk, cellVer, cellFrozen, cellValue, ownBit, putHead0, putCell, classOf, roomOf, putLink, live, i64, shr, band, bor, shl, fit, u64, mx, mn]; done) | (simp_all [handleSlot, handleGen, handleOk, cellVer, cellFrozen, cellValue, ownBit, putHead0, putCell, classOf, roomOf, putLink, live, i64, shr, band, bor, shl, fit, u64, mx, mn]; try omega)
  exact allC_nil _

theorem tChunkAt_ok : tChunkAt.ok SG prog 95 := by
  refine pure_ok (cs := [⟨true, .one (.c (.int .i64 (.o2 (.arith .add .i64) (.o2 (.arith .add .i64) (.o2 (.arith .add .i64) (.int 6) (.f1 0 (.var 0))) (.o2 (.arith .mul .i64) (.int 2) (.f1 1 (.var 0)))) (.o2 (.arith .mul .i64) (.int 3) (.var 1))))), [], 2, []⟩]) nop_ok (by kernel_rfl) ?_
  refine allC_cons (fun v hp => ⟨rfl, fun n hn => ?_⟩) ?_
  · subst hn
    simp only [pt_nil, pt_cons, E.den, O1.ap, ap_arith, ap_bits, ap_div, ap_shift, ap_eql, ap_lss, ap_beq, ap_min, ap_max, ap_nthI, ap_nthB, ap_inI, ap_inB, G.toInt_int, G.toBool_bool, and_true] at hp
    simp only [SV.den, S2.den, S1.den, cellsDen, cfgE, aggI, iE, uE, bE, v0, v1, v2, v3, v4, List.map, E.den, sg_f1, sg_f2, sg_f3, sg_f4, F1, F2, F3, F4, O1.ap, ap_arith, ap_bits, ap_div, ap_shift, ap_eql, ap_lss, ap_beq, ap_min, ap_max, ap_nthI, ap_nthB, ap_inI, ap_inB, G.toInt_int, G.toBool_bool]
    first | rfl | (simp_all [handleSlot, handleGen, handleOk, cellVer, cellFrozen, cellValue, ownBit, putHead0, putCell, classOf, roomOf, putLink, live, i64, shr, band, bor, shl, fit, u64, mx, mn]; done) | (simp_all [handleSlot, handleGen, handleOk, cellVer, cellFrozen, cellValue, ownBit, putHead0, putCell, classOf, roomOf, putLink, live, i64, shr, band, bor, shl, fit, u64, mx, mn]; try omega)
  exact allC_nil _

theorem tBaseAt_ok : tBaseAt.ok SG prog 128 := by
  refine pure_ok (cs := [⟨true, .one (.c (.int .i64 (.o2 (.arith .add .i64) (.o2 (.arith .add .i64) (.o2 (.arith .add .i64) (.o2 (.arith .add .i64) (.int 6) (.f1 0 (.var 0))) (.o2 (.arith .mul .i64) (.int 2) (.f1 1 (.var 0)))) (.o2 (.arith .mul .i64) (.int 3) (.f1 2 (.var 0)))) (.o2 (.arith .mul .i64) (.f1 3 (.var 0)) (.var 1))))), [], 2, []⟩]) nop_ok (by kernel_rfl) ?_
  refine allC_cons (fun v hp => ⟨rfl, fun n hn => ?_⟩) ?_
  · subst hn
    simp only [pt_nil, pt_cons, E.den, O1.ap, ap_arith, ap_bits, ap_div, ap_shift, ap_eql, ap_lss, ap_beq, ap_min, ap_max, ap_nthI, ap_nthB, ap_inI, ap_inB, G.toInt_int, G.toBool_bool, and_true] at hp
    simp only [SV.den, S2.den, S1.den, cellsDen, cfgE, aggI, iE, uE, bE, v0, v1, v2, v3, v4, List.map, E.den, sg_f1, sg_f2, sg_f3, sg_f4, F1, F2, F3, F4, O1.ap, ap_arith, ap_bits, ap_div, ap_shift, ap_eql, ap_lss, ap_beq, ap_min, ap_max, ap_nthI, ap_nthB, ap_inI, ap_inB, G.toInt_int, G.toBool_bool]
    first | rfl | (simp_all [handleSlot, handleGen, handleOk, cellVer, cellFrozen, cellValue, ownBit, putHead0, putCell, classOf, roomOf, putLink, live, i64, shr, band, bor, shl, fit, u64, mx, mn]; done) | (simp_all [handleSlot, handleGen, handleOk, cellVer, cellFrozen, cellValue, ownBit, putHead0, putCell, classOf, roomOf, putLink, live, i64, shr, band, bor, shl, fit, u64, mx, mn]; try omega)
  exact allC_nil _

theorem tLen_ok : tLen.ok SG prog 129 := by
  refine pure_ok (cs := [⟨true, .one (.c (.int .i64 (.o2 (.arith .add .i64) (.o2 (.arith .add .i64) (.o2 (.arith .add .i64) (.o2 (.arith .add .i64) (.int 6) (.f1 0 (.var 0))) (.o2 (.arith .mul .i64) (.int 2) (.f1 1 (.var 0)))) (.o2 (.arith .mul .i64) (.int 3) (.f1 2 (.var 0)))) (.o2 (.arith .mul .i64) (.f1 3 (.var 0)) (.f1 2 (.var 0)))))), [], 3, []⟩]) nop_ok (by kernel_rfl) ?_
  refine allC_cons (fun v hp => ⟨rfl, fun n hn => ?_⟩) ?_
  · subst hn
    simp only [pt_nil, pt_cons, E.den, O1.ap, ap_arith, ap_bits, ap_div, ap_shift, ap_eql, ap_lss, ap_beq, ap_min, ap_max, ap_nthI, ap_nthB, ap_inI, ap_inB, G.toInt_int, G.toBool_bool, and_true] at hp
    simp only [SV.den, S2.den, S1.den, cellsDen, cfgE, aggI, iE, uE, bE, v0, v1, v2, v3, v4, List.map, E.den, sg_f1, sg_f2, sg_f3, sg_f4, F1, F2, F3, F4, O1.ap, ap_arith, ap_bits, ap_div, ap_shift, ap_eql, ap_lss, ap_beq, ap_min, ap_max, ap_nthI, ap_nthB, ap_inI, ap_inB, G.toInt_int, G.toBool_bool]
    first | rfl | (simp_all [handleSlot, handleGen, handleOk, cellVer, cellFrozen, cellValue, ownBit, putHead0, putCell, classOf, roomOf, putLink, live, i64, shr, band, bor, shl, fit, u64, mx, mn]; done) | (simp_all [handleSlot, handleGen, handleOk, cellVer, cellFrozen, cellValue, ownBit, putHead0, putCell, classOf, roomOf, putLink, live, i64, shr, band, bor, shl, fit, u64, mx, mn]; try omega)
  exact allC_nil _

theorem tClass_ok : tClass.ok SG prog 138 := by
  refine pure_ok (cs := [⟨true, .one (.c (.int .i64 (.int (-1)))), [], 1, [((.o2 .lss (.var 0) (.int 1)), true)]⟩,
    ⟨true, .one (.c (.int .i64 (.int (-1)))), [], 1, [((.o2 .lss (.int 16) (.var 0)), true), ((.o2 .lss (.int 8) (.var 0)), true), ((.o2 .lss (.int 4) (.var 0)), true), ((.o2 .lss (.int 2) (.var 0)), true), ((.o2 .lss (.var 0) (.int 1)), false)]⟩,
    ⟨true, .one (.c (.int .i64 (.int 3))), [], 1, [((.o2 .lss (.int 16) (.var 0)), false), ((.o2 .lss (.int 8) (.var 0)), true), ((.o2 .lss (.int 4) (.var 0)), true), ((.o2 .lss (.int 2) (.var 0)), true), ((.o2 .lss (.var 0) (.int 1)), false)]⟩,
    ⟨true, .one (.c (.int .i64 (.int 2))), [], 1, [((.o2 .lss (.int 8) (.var 0)), false), ((.o2 .lss (.int 4) (.var 0)), true), ((.o2 .lss (.int 2) (.var 0)), true), ((.o2 .lss (.var 0) (.int 1)), false)]⟩,
    ⟨true, .one (.c (.int .i64 (.int 1))), [], 1, [((.o2 .lss (.int 4) (.var 0)), false), ((.o2 .lss (.int 2) (.var 0)), true), ((.o2 .lss (.var 0) (.int 1)), false)]⟩,
    ⟨true, .one (.c (.int .i64 (.int 0))), [], 1, [((.o2 .lss (.int 2) (.var 0)), false), ((.o2 .lss (.var 0) (.int 1)), false)]⟩]) nop_ok (by kernel_rfl) ?_
  refine allC_cons (fun v hp => ⟨rfl, fun n hn => ?_⟩) ?_
  · subst hn
    simp only [pt_nil, pt_cons, E.den, O1.ap, ap_arith, ap_bits, ap_div, ap_shift, ap_eql, ap_lss, ap_beq, ap_min, ap_max, ap_nthI, ap_nthB, ap_inI, ap_inB, G.toInt_int, G.toBool_bool, and_true] at hp
    simp only [SV.den, S2.den, S1.den, cellsDen, cfgE, aggI, iE, uE, bE, v0, v1, v2, v3, v4, List.map, E.den, sg_f1, sg_f2, sg_f3, sg_f4, F1, F2, F3, F4, O1.ap, ap_arith, ap_bits, ap_div, ap_shift, ap_eql, ap_lss, ap_beq, ap_min, ap_max, ap_nthI, ap_nthB, ap_inI, ap_inB, G.toInt_int, G.toBool_bool]
    simp only [ltI_t, ltI_f] at hp
    congr 1; simp only [classOf, roomOf]; (repeat' split) <;> first | omega | rfl

  refine allC_cons (fun v hp => ⟨rfl, fun n hn => ?_⟩) ?_
  · subst hn
    simp only [pt_nil, pt_cons, E.den, O1.ap, ap_arith, ap_bits, ap_div, ap_shift, ap_eql, ap_lss, ap_beq, ap_min, ap_max, ap_nthI, ap_nthB, ap_inI, ap_inB, G.toInt_int, G.toBool_bool, and_true] at hp
    simp only [SV.den, S2.den, S1.den, cellsDen, cfgE, aggI, iE, uE, bE, v0, v1, v2, v3, v4, List.map, E.den, sg_f1, sg_f2, sg_f3, sg_f4, F1, F2, F3, F4, O1.ap, ap_arith, ap_bits, ap_div, ap_shift, ap_eql, ap_lss, ap_beq, ap_min, ap_max, ap_nthI, ap_nthB, ap_inI, ap_inB, G.toInt_int, G.toBool_bool]
    simp only [ltI_t, ltI_f] at hp
    congr 1; simp only [classOf, roomOf]; (repeat' split) <;> first | omega | rfl
  refine allC_cons (fun v hp => ⟨rfl, fun n hn => ?_⟩) ?_
  · subst hn
    simp only [pt_nil, pt_cons, E.den, O1.ap, ap_arith, ap_bits, ap_div, ap_shift, ap_eql, ap_lss, ap_beq, ap_min, ap_max, ap_nthI, ap_nthB, ap_inI, ap_inB, G.toInt_int, G.toBool_bool, and_true] at hp
    simp only [SV.den, S2.den, S1.den, cellsDen, cfgE, aggI, iE, uE, bE, v0, v1, v2, v3, v4, List.map, E.den, sg_f1, sg_f2, sg_f3, sg_f4, F1, F2, F3, F4, O1.ap, ap_arith, ap_bits, ap_div, ap_shift, ap_eql, ap_lss, ap_beq, ap_min, ap_max, ap_nthI, ap_nthB, ap_inI, ap_inB, G.toInt_int, G.toBool_bool]
    simp only [ltI_t, ltI_f] at hp
    congr 1; simp only [classOf, roomOf]; (repeat' split) <;> first | omega | rfl
  refine allC_cons (fun v hp => ⟨rfl, fun n hn => ?_⟩) ?_
  · subst hn
    simp only [pt_nil, pt_cons, E.den, O1.ap, ap_arith, ap_bits, ap_div, ap_shift, ap_eql, ap_lss, ap_beq, ap_min, ap_max, ap_nthI, ap_nthB, ap_inI, ap_inB, G.toInt_int, G.toBool_bool, and_true] at hp
    simp only [SV.den, S2.den, S1.den, cellsDen, cfgE, aggI, iE, uE, bE, v0, v1, v2, v3, v4, List.map, E.den, sg_f1, sg_f2, sg_f3, sg_f4, F1, F2, F3, F4, O1.ap, ap_arith, ap_bits, ap_div, ap_shift, ap_eql, ap_lss, ap_beq, ap_min, ap_max, ap_nthI, ap_nthB, ap_inI, ap_inB, G.toInt_int, G.toBool_bool]
    simp only [ltI_t, ltI_f] at hp
    congr 1; simp only [classOf, roomOf]; (repeat' split) <;> first | omega | rfl
  refine allC_cons (fun v hp => ⟨rfl, fun n hn => ?_⟩) ?_
  · subst hn
    simp only [pt_nil, pt_cons, E.den, O1.ap, ap_arith, ap_bits, ap_div, ap_shift, ap_eql, ap_lss, ap_beq, ap_min, ap_max, ap_nthI, ap_nthB, ap_inI, ap_inB, G.toInt_int, G.toBool_bool, and_true] at hp
    simp only [SV.den, S2.den, S1.den, cellsDen, cfgE, aggI, iE, uE, bE, v0, v1, v2, v3, v4, List.map, E.den, sg_f1, sg_f2, sg_f3, sg_f4, F1, F2, F3, F4, O1.ap, ap_arith, ap_bits, ap_div, ap_shift, ap_eql, ap_lss, ap_beq, ap_min, ap_max, ap_nthI, ap_nthB, ap_inI, ap_inB, G.toInt_int, G.toBool_bool]
    simp only [ltI_t, ltI_f] at hp
    congr 1; simp only [classOf, roomOf]; (repeat' split) <;> first | omega | rfl
  refine allC_cons (fun v hp => ⟨rfl, fun n hn => ?_⟩) ?_
  · subst hn
    simp only [pt_nil, pt_cons, E.den, O1.ap, ap_arith, ap_bits, ap_div, ap_shift, ap_eql, ap_lss, ap_beq, ap_min, ap_max, ap_nthI, ap_nthB, ap_inI, ap_inB, G.toInt_int, G.toBool_bool, and_true] at hp
    simp only [SV.den, S2.den, S1.den, cellsDen, cfgE, aggI, iE, uE, bE, v0, v1, v2, v3, v4, List.map, E.den, sg_f1, sg_f2, sg_f3, sg_f4, F1, F2, F3, F4, O1.ap, ap_arith, ap_bits, ap_div, ap_shift, ap_eql, ap_lss, ap_beq, ap_min, ap_max, ap_nthI, ap_nthB, ap_inI, ap_inB, G.toInt_int, G.toBool_bool]
    simp only [ltI_t, ltI_f] at hp
    congr 1; simp only [classOf, roomOf]; (repeat' split) <;> first | omega | rfl
  exact allC_nil _

theorem tRoom_ok : tRoom.ok SG prog 140 := by
  refine pure_ok (cs := [⟨true, .one (.c (.int .i64 (.int 0))), [], 1, [((.o2 .lss (.var 0) (.int 0)), true)]⟩,
    ⟨true, .one (.c (.int .i64 (.o2 (.arith .add .i64) (.int 1) (.o2 (.shift .shl .i64) (.int 2) (.var 0))))), [], 1, [((.o2 .lss (.var 0) (.int 0)), false)]⟩]) nop_ok (by kernel_rfl) ?_
  refine allC_cons (fun v hp => ⟨rfl, fun n hn => ?_⟩) ?_
  · subst hn
    simp only [pt_nil, pt_cons, E.den, O1.ap, ap_arith, ap_bits, ap_div, ap_shift, ap_eql, ap_lss, ap_beq, ap_min, ap_max, ap_nthI, ap_nthB, ap_inI, ap_inB, G.toInt_int, G.toBool_bool, and_true] at hp
    simp only [SV.den, S2.den, S1.den, cellsDen, cfgE, aggI, iE, uE, bE, v0, v1, v2, v3, v4, List.map, E.den, sg_f1, sg_f2, sg_f3, sg_f4, F1, F2, F3, F4, O1.ap, ap_arith, ap_bits, ap_div, ap_shift, ap_eql, ap_lss, ap_beq, ap_min, ap_max, ap_nthI, ap_nthB, ap_inI, ap_inB, G.toInt_int, G.toBool_bool]
    simp only [ltI_t, ltI_f] at hp
    congr 1; simp only [classOf, roomOf]; (repeat' split) <;> first | omega | rfl
  refine allC_cons (fun v hp => ⟨rfl, fun n hn => ?_⟩) ?_
  · subst hn
    simp only [pt_nil, pt_cons, E.den, O1.ap, ap_arith, ap_bits, ap_div, ap_shift, ap_eql, ap_lss, ap_beq, ap_min, ap_max, ap_nthI, ap_nthB, ap_inI, ap_inB, G.toInt_int, G.toBool_bool, and_true] at hp
    simp only [SV.den, S2.den, S1.den, cellsDen, cfgE, aggI, iE, uE, bE, v0, v1, v2, v3, v4, List.map, E.den, sg_f1, sg_f2, sg_f3, sg_f4, F1, F2, F3, F4, O1.ap, ap_arith, ap_bits, ap_div, ap_shift, ap_eql, ap_lss, ap_beq, ap_min, ap_max, ap_nthI, ap_nthB, ap_inI, ap_inB, G.toInt_int, G.toBool_bool]
    simp only [ltI_t, ltI_f] at hp
    congr 1; simp only [classOf, roomOf]; (repeat' split) <;> first | omega | rfl
  exact allC_nil _

theorem tLink_ok : tLink.ok SG prog 31 := by
  refine pure_ok (cs := [⟨true, .one (.agg [.int .u64 (.o2 (.bits .and .u64) (.o1 (.conv .u64) (.var 0)) (.int 4294967295)), .bool (.o1 .not (.o2 .eql (.o2 (.bits .and .i64) (.var 0) (.int 4294967296)) (.int 0)))]), [], 2, []⟩]) nop_ok (by kernel_rfl) ?_
  refine allC_cons (fun v hp => ⟨rfl, fun n hn => ?_⟩) ?_
  · subst hn
    simp only [pt_nil, pt_cons, E.den, O1.ap, ap_arith, ap_bits, ap_div, ap_shift, ap_eql, ap_lss, ap_beq, ap_min, ap_max, ap_nthI, ap_nthB, ap_inI, ap_inB, G.toInt_int, G.toBool_bool, and_true] at hp
    simp only [SV.den, S2.den, S1.den, cellsDen, cfgE, aggI, iE, uE, bE, v0, v1, v2, v3, v4, List.map, E.den, sg_f1, sg_f2, sg_f3, sg_f4, F1, F2, F3, F4, O1.ap, ap_arith, ap_bits, ap_div, ap_shift, ap_eql, ap_lss, ap_beq, ap_min, ap_max, ap_nthI, ap_nthB, ap_inI, ap_inB, G.toInt_int, G.toBool_bool]
    first | rfl | (simp_all [handleSlot, handleGen, handleOk, cellVer, cellFrozen, cellValue, ownBit, putHead0, putCell, classOf, roomOf, putLink, live, i64, shr, band, bor, shl, fit, u64, mx, mn]; done) | (simp_all [handleSlot, handleGen, handleOk, cellVer, cellFrozen, cellValue, ownBit, putHead0, putCell, classOf, roomOf, putLink, live, i64, shr, band, bor, shl, fit, u64, mx, mn]; try omega)
  exact allC_nil _

theorem tPutLink_ok : tPutLink.ok SG prog 32 := by
  refine pure_ok (cs := [⟨true, .one (.c (.int .i64 (.o2 (.bits .or .i64) (.o1 (.conv .i64) (.o2 (.bits .and .u64) (.var 0) (.int 4294967295))) (.int 4294967296)))), [], 2, [((.var 1), true)]⟩,
    ⟨true, .one (.c (.int .i64 (.o1 (.conv .i64) (.o2 (.bits .and .u64) (.var 0) (.int 4294967295))))), [], 2, [((.var 1), false)]⟩]) nop_ok (by kernel_rfl) ?_
  refine allC_cons (fun v hp => ⟨rfl, fun n hn => ?_⟩) ?_
  · subst hn
    simp only [pt_nil, pt_cons, E.den, O1.ap, ap_arith, ap_bits, ap_div, ap_shift, ap_eql, ap_lss, ap_beq, ap_min, ap_max, ap_nthI, ap_nthB, ap_inI, ap_inB, G.toInt_int, G.toBool_bool, and_true] at hp
    simp only [SV.den, S2.den, S1.den, cellsDen, cfgE, aggI, iE, uE, bE, v0, v1, v2, v3, v4, List.map, E.den, sg_f1, sg_f2, sg_f3, sg_f4, F1, F2, F3, F4, O1.ap, ap_arith, ap_bits, ap_div, ap_shift, ap_eql, ap_lss, ap_beq, ap_min, ap_max, ap_nthI, ap_nthB, ap_inI, ap_inB, G.toInt_int, G.toBool_bool]
    simp only [putLink, hp]; first | rfl | simp [hp]
  refine allC_cons (fun v hp => ⟨rfl, fun n hn => ?_⟩) ?_
  · subst hn
    simp only [pt_nil, pt_cons, E.den, O1.ap, ap_arith, ap_bits, ap_div, ap_shift, ap_eql, ap_lss, ap_beq, ap_min, ap_max, ap_nthI, ap_nthB, ap_inI, ap_inB, G.toInt_int, G.toBool_bool, and_true] at hp
    simp only [SV.den, S2.den, S1.den, cellsDen, cfgE, aggI, iE, uE, bE, v0, v1, v2, v3, v4, List.map, E.den, sg_f1, sg_f2, sg_f3, sg_f4, F1, F2, F3, F4, O1.ap, ap_arith, ap_bits, ap_div, ap_shift, ap_eql, ap_lss, ap_beq, ap_min, ap_max, ap_nthI, ap_nthB, ap_inI, ap_inB, G.toInt_int, G.toBool_bool]
    simp only [putLink, hp]; first | rfl | simp [hp]
  exact allC_nil _

theorem tLive_ok : tLive.ok SG prog 356 := by
  refine pure_ok (cs := [⟨true, .one (.c (.bool (.o2 .eql (.var 2) (.var 5)))), [], 3, [((.o2 .eql (.var 0) (.int 1)), true)]⟩,
    ⟨true, .one (.c (.bool (.o2 .eql (.var 2) (.var 5)))), [], 3, [((.o2 .eql (.var 0) (.int 2)), true), ((.o2 .eql (.var 0) (.int 1)), false)]⟩,
    ⟨true, .one (.c (.bool (.o2 .eql (.var 2) (.var 5)))), [], 3, [((.o2 .eql (.var 0) (.int 4)), true), ((.o2 .eql (.var 0) (.int 2)), false), ((.o2 .eql (.var 0) (.int 1)), false)]⟩,
    ⟨true, .one (.c (.bool (.bool false))), [], 3, [((.o2 .eql (.var 0) (.int 4)), false), ((.o2 .eql (.var 0) (.int 2)), false), ((.o2 .eql (.var 0) (.int 1)), false)]⟩]) nop_ok (by kernel_rfl) ?_
  refine allC_cons (fun v hp => ⟨rfl, fun n hn => ?_⟩) ?_
  · subst hn
    simp only [pt_nil, pt_cons, E.den, O1.ap, ap_arith, ap_bits, ap_div, ap_shift, ap_eql, ap_lss, ap_beq, ap_min, ap_max, ap_nthI, ap_nthB, ap_inI, ap_inB, G.toInt_int, G.toBool_bool, and_true] at hp
    simp only [SV.den, S2.den, S1.den, cellsDen, cfgE, aggI, iE, uE, bE, v0, v1, v2, v3, v4, List.map, E.den, sg_f1, sg_f2, sg_f3, sg_f4, F1, F2, F3, F4, O1.ap, ap_arith, ap_bits, ap_div, ap_shift, ap_eql, ap_lss, ap_beq, ap_min, ap_max, ap_nthI, ap_nthB, ap_inI, ap_inB, G.toInt_int, G.toBool_bool]
    first | rfl | (simp_all [handleSlot, handleGen, handleOk, cellVer, cellFrozen, cellValue, ownBit, putHead0, putCell, classOf, roomOf, putLink, live, i64, shr, band, bor, shl, fit, u64, mx, mn]; done) | (simp_all [handleSlot, handleGen, handleOk, cellVer, cellFrozen, cellValue, ownBit, putHead0, putCell, classOf, roomOf, putLink, live, i64, shr, band, bor, shl, fit, u64, mx, mn]; try omega)
  refine allC_cons (fun v hp => ⟨rfl, fun n hn => ?_⟩) ?_
  · subst hn
    simp only [pt_nil, pt_cons, E.den, O1.ap, ap_arith, ap_bits, ap_div, ap_shift, ap_eql, ap_lss, ap_beq, ap_min, ap_max, ap_nthI, ap_nthB, ap_inI, ap_inB, G.toInt_int, G.toBool_bool, and_true] at hp
    simp only [SV.den, S2.den, S1.den, cellsDen, cfgE, aggI, iE, uE, bE, v0, v1, v2, v3, v4, List.map, E.den, sg_f1, sg_f2, sg_f3, sg_f4, F1, F2, F3, F4, O1.ap, ap_arith, ap_bits, ap_div, ap_shift, ap_eql, ap_lss, ap_beq, ap_min, ap_max, ap_nthI, ap_nthB, ap_inI, ap_inB, G.toInt_int, G.toBool_bool]
    first | rfl | (simp_all [handleSlot, handleGen, handleOk, cellVer, cellFrozen, cellValue, ownBit, putHead0, putCell, classOf, roomOf, putLink, live, i64, shr, band, bor, shl, fit, u64, mx, mn]; done) | (simp_all [handleSlot, handleGen, handleOk, cellVer, cellFrozen, cellValue, ownBit, putHead0, putCell, classOf, roomOf, putLink, live, i64, shr, band, bor, shl, fit, u64, mx, mn]; try omega)
  refine allC_cons (fun v hp => ⟨rfl, fun n hn => ?_⟩) ?_
  · subst hn
    simp only [pt_nil, pt_cons, E.den, O1.ap, ap_arith, ap_bits, ap_div, ap_shift, ap_eql, ap_lss, ap_beq, ap_min, ap_max, ap_nthI, ap_nthB, ap_inI, ap_inB, G.toInt_int, G.toBool_bool, and_true] at hp
    simp only [SV.den, S2.den, S1.den, cellsDen, cfgE, aggI, iE, uE, bE, v0, v1, v2, v3, v4, List.map, E.den, sg_f1, sg_f2, sg_f3, sg_f4, F1, F2, F3, F4, O1.ap, ap_arith, ap_bits, ap_div, ap_shift, ap_eql, ap_lss, ap_beq, ap_min, ap_max, ap_nthI, ap_nthB, ap_inI, ap_inB, G.toInt_int, G.toBool_bool]
    first | rfl | (simp_all [handleSlot, handleGen, handleOk, cellVer, cellFrozen, cellValue, ownBit, putHead0, putCell, classOf, roomOf, putLink, live, i64, shr, band, bor, shl, fit, u64, mx, mn]; done) | (simp_all [handleSlot, handleGen, handleOk, cellVer, cellFrozen, cellValue, ownBit, putHead0, putCell, classOf, roomOf, putLink, live, i64, shr, band, bor, shl, fit, u64, mx, mn]; try omega)
  refine allC_cons (fun v hp => ⟨rfl, fun n hn => ?_⟩) ?_
  · subst hn
    simp only [pt_nil, pt_cons, E.den, O1.ap, ap_arith, ap_bits, ap_div, ap_shift, ap_eql, ap_lss, ap_beq, ap_min, ap_max, ap_nthI, ap_nthB, ap_inI, ap_inB, G.toInt_int, G.toBool_bool, and_true] at hp
    simp only [SV.den, S2.den, S1.den, cellsDen, cfgE, aggI, iE, uE, bE, v0, v1, v2, v3, v4, List.map, E.den, sg_f1, sg_f2, sg_f3, sg_f4, F1, F2, F3, F4, O1.ap, ap_arith, ap_bits, ap_div, ap_shift, ap_eql, ap_lss, ap_beq, ap_min, ap_max, ap_nthI, ap_nthB, ap_inI, ap_inB, G.toInt_int, G.toBool_bool]
    first | rfl | (simp_all [handleSlot, handleGen, handleOk, cellVer, cellFrozen, cellValue, ownBit, putHead0, putCell, classOf, roomOf, putLink, live, i64, shr, band, bor, shl, fit, u64, mx, mn]; done) | (simp_all [handleSlot, handleGen, handleOk, cellVer, cellFrozen, cellValue, ownBit, putHead0, putCell, classOf, roomOf, putLink, live, i64, shr, band, bor, shl, fit, u64, mx, mn]; try omega)
  exact allC_nil _

end Go.Fl

/- How a method's template is shown: at each shape, at each way's end. -/
namespace Go.Fl
open Go Go.Sx Go.Proofs
variable [ExtF]
set_option maxRecDepth 100000

def AllT (l : List (Nat × Tmpl)) : Prop := ∀ p ∈ l, p.2.ok SG prog p.1
theorem allT_nil : AllT [] := fun c h => by cases h
theorem allT_cons {f : Nat} {t : Tmpl} {l : List (Nat × Tmpl)} (h : t.ok SG prog f) (h' : AllT l) : AllT ((f, t) :: l) := fun x hx => by
  rcases List.mem_cons.1 hx with rfl | hx
  · exact h
  · exact h' x hx
theorem allT_app {a b : List (Nat × Tmpl)} (h : AllT a) (h' : AllT b) : AllT (a ++ b) := fun x hx => by
  rcases List.mem_append.1 hx with hx | hx
  · exact h x hx
  · exact h' x hx
theorem tmOf_ok {l : List (Nat × Tmpl)} (h : AllT l) : CallOK SG prog (tmOf l) := tmplOf_ok fun f t ht => by
  obtain ⟨p, hp, rfl⟩ := List.mem_map.1 ht
  obtain ⟨hp, e⟩ := List.mem_filter.1 hp
  have : p.1 = f := by simpa using e
  rw [← this]; exact h p hp
theorem ts1_ok : AllT ts1 := allT_cons tHandle_ok <| allT_cons tCell_ok <| allT_cons tSlot_ok <| allT_cons tChunk_ok <| allT_cons tHead_ok <| allT_cons tTop_ok <| allT_cons tPutHandle_ok <|
  allT_cons tPutSlot_ok <| allT_cons tPutChunk_ok <| allT_cons tPutHead_ok <| allT_cons tPutCell_ok <| allT_cons tPutTop_ok <| allT_cons tSlotAt_ok <| allT_cons tChunkAt_ok <| allT_cons tBaseAt_ok <|
  allT_cons tLen_ok <| allT_cons tClass_ok <| allT_cons tRoom_ok <| allT_cons tLink_ok <| allT_cons tPutLink_ok <| allT_cons tLive_ok allT_nil

theorem tm1_ok : CallOK SG prog tm1 := tmOf_ok ts1_ok

def AllS (l : List (Shape U)) (p : Shape U → Prop) : Prop := ∀ c ∈ l, p c
end Go.Fl
namespace Go.Fl
open Go Go.Sx Go.Proofs
set_option maxRecDepth 100000
theorem allS_nil (p : Shape U → Prop) : AllS [] p := fun c h => by cases h
theorem allS_cons {c : Shape U} {l : List (Shape U)} {p : Shape U → Prop} (h : p c) (h' : AllS l p) : AllS (c :: l) p := fun x hx => by
  rcases List.mem_cons.1 hx with rfl | hx
  · exact h
  · exact h' x hx

end Go.Fl
namespace Go.Fl
open Go Go.Sx Go.Proofs
variable [ExtF]
set_option maxRecDepth 100000
theorem kinds_ok : ∀ k, ∀ sh ∈ kinds k, shapeB k sh = true := by
  have h : ∀ k, (kinds k).all (shapeB k) = true := fun k =>
    match k with
    | 0 => by kernel_rfl | 1 => by kernel_rfl | 2 => by kernel_rfl | 3 => by kernel_rfl | 4 => by kernel_rfl | 5 => by kernel_rfl | 6 => by kernel_rfl | 7 => by kernel_rfl | 8 => by kernel_rfl
    | k + 9 => List.all_eq_true.2 (ExtF.ok (k + 9))
  exact fun k sh hsh => List.all_eq_true.1 (h k) sh hsh

structure MSpec where
  k : Nat
  g : Nat
  a : Nat
  nx : Nat
  nxu : Nat
  nxo : Nat
  args : List SV
  rest : SH
  ret : SV
  root : Option (Nat × Nat × E)
  rest0 : SH

def MSpec.t (m : MSpec) : Tmpl := ⟨m.args, (1, .res m.k (.var m.g)) :: m.rest, m.nx, [⟨true, m.ret, rootH m.root ++ m.rest0, m.nxo, []⟩]⟩
def MSpec.bd (m : MSpec) : Bool :=
  (m.rest.vlt m.a && m.rest.lt m.nx && decide (1 < m.nx) && !((ids m.rest).contains 1) && m.args.all (SV.vlt m.a) && m.args.all (SV.lt m.nx) && decide (m.g < m.a) && decide (m.nx ≤ m.nxu)
      && m.ret.vlt m.a && m.ret.lt m.nxo && (rootH m.root ++ m.rest0).vlt m.a && (rootH m.root ++ m.rest0).lt m.nxo)
def MSpec.kB (m : MSpec) : Bool := decide (m.k < 20) && match m.root with | some (_, k, _) => decide (k < 20) | none => true

theorem MSpec.ok {tm : CH} (htm : CallOK SG prog tm) (m : MSpec) {f : FuncId} (hk : m.kB = true) (hb : m.bd = true)
    (hcase : AllS (kinds m.k) fun sh => ∃ cs, callX tab tm 20 20 f m.args (openH sh.H 1 m.a m.nx m.rest) m.nxu [] = some cs ∧
      AllC cs fun c => ∀ v : V, PT SG v c.pa → v m.g = sh.enc (fun j => v (j + m.a)) → sh.inv (fun j => v (j + m.a)) → EndOK L NK v c m.ret m.root m.rest0) : m.t.ok SG prog f := by
  simp only [MSpec.kB, Bool.and_eq_true, decide_eq_true_eq] at hk
  have hs : ∀ k, ∀ sh ∈ kinds k, sh.H.klt k = true ∧ sh.H.plain = true ∧ nodupB (ids sh.H) = true ∧ (ids sh.H).contains 1 = true := fun k sh hsh => by
    have := kinds_ok k sh hsh
    simp only [shapeB, Bool.and_eq_true] at this
    exact ⟨this.1.1.1, this.1.1.2, this.1.2, this.2⟩
  refine Tmpl.meth (L := L) (N := NK) (k := m.k) (g := m.g) (a := m.a) (nxu := m.nxu) (rest := m.rest) (ret0 := m.ret) (root := m.root) (rest0 := m.rest0) (nxo := m.nxo)
    tab_ok htm rfl rfl hk.1 (fun sh hsh => ⟨(hs m.k sh hsh).1, (hs m.k sh hsh).2.1, (hs m.k sh hsh).2.2.1⟩) ?_ hb hcase
  intro r k e0 hr
  have h2 := hk.2
  rw [hr] at h2
  exact ⟨of_decide_eq_true h2, fun sh hsh => ⟨(hs k sh hsh).1, (hs k sh hsh).2.2.2⟩⟩

theorem endOK_fold {v : V} {c : CO} {ret : SV} {r k : Nat} {e0 : E} {rest0 : SH} (hok : c.ok = true) (hret : ∀ n : Env U, n.v = v → c.ret.den SG n = ret.den SG n)
    (sh : Shape U) (hsh : sh ∈ kinds k) (σ : Nat → E) (τ : Nat → Nat) (hfit : foldFit sh.H σ τ c.H = true) (hr : τ 1 = r)
    (henc : e0.den SG v = sh.enc fun j => (σ j).den SG v) (hinv : sh.inv fun j => (σ j).den SG v) (hrest : restOK SG v c.H ((ids sh.H).map τ) rest0) :
    EndOK L NK v c ret (some (r, k, e0)) rest0 :=
  ⟨hok, hret, sh, hsh, σ, τ, hfit, hr, ⟨henc, hinv⟩, hrest⟩
theorem endOK_none {v : V} {c : CO} {ret : SV} {rest0 : SH} (hok : c.ok = true) (hret : ∀ n : Env U, n.v = v → c.ret.den SG n = ret.den SG n) (hrest : restOK SG v c.H [] rest0) :
    EndOK L NK v c ret none rest0 := ⟨hok, hret, hrest⟩

/-- one shape's part of it -/
def CaseOK (tm : CH) (m : MSpec) (f : FuncId) (sh : Shape U) : Prop :=
  ∃ cs, callX tab tm 20 20 f m.args (openH sh.H 1 m.a m.nx m.rest) m.nxu [] = some cs ∧
    AllC cs fun c => ∀ v : V, PT SG v c.pa → v m.g = sh.enc (fun j => v (j + m.a)) → sh.inv (fun j => v (j + m.a)) → EndOK L NK v c m.ret m.root m.rest0
/-- a shape's cells, laid open; some of them turned -/
def cell1 (sh : Shape U) (a b : Nat) : List S1 := match (openH sh.H 1 a b []).get 1 with | some (.cells l) => l | _ => []
def ch (l : List S1) (d : List (Nat × S1)) : List S1 := d.foldl (fun l p => l.set p.1 p.2) l

/-- a function that lays nothing open: it makes something, or needs no piece of memory -/
structure PSpec where
  args : List SV
  ret : SV
  root : Option (Nat × Nat × E)
  nxo : Nat
def PSpec.t (m : PSpec) : Tmpl := ⟨m.args, [], 1, [⟨true, m.ret, rootH m.root ++ [], m.nxo, []⟩]⟩
def PSpec.kB (m : PSpec) : Bool := match m.root with | some (_, k, _) => decide (k < 20) | none => true
theorem PSpec.ok {tm : CH} (htm : CallOK SG prog tm) (m : PSpec) {f : FuncId} (hk : m.kB = true)
    (hcase : ∃ cs, callX tab tm 20 20 f m.args [] 1 [] = some cs ∧ AllC cs fun c => ∀ v : V, PT SG v c.pa → EndOK L NK v c m.ret m.root []) : m.t.ok SG prog f := by
  refine Tmpl.plain (L := L) (N := NK) (ret0 := m.ret) (root := m.root) (rest0 := []) (nxo := m.nxo) tab_ok htm rfl ?_ hcase
  intro r k e0 hr
  have h2 : m.kB = true := hk
  unfold PSpec.kB at h2
  rw [hr] at h2
  refine ⟨of_decide_eq_true h2, fun sh hsh => ?_⟩
  have := kinds_ok k sh hsh
  simp only [shapeB, Bool.and_eq_true] at this
  exact ⟨this.1.1.1, this.2⟩

theorem rest_nil {v : V} {H : SH} {not : List Nat} : restOK SG v H not [] := fun p hp => by cases hp
theorem rest_cons {v : V} {H : SH} {not : List Nat} {i : Nat} {b x : Blk} {l : SH} (h1 : not.contains i = false) (h2 : H.get i = some x) (h3 : Blk.eqv SG v x b) (h : restOK SG v H not l) :
    restOK SG v H not ((i, b) :: l) := fun p hp => by
  rcases List.mem_cons.1 hp with rfl | hp
  · exact ⟨h1, x, h2, h3⟩
  · exact h p hp
theorem wf_res {v : V} {k : Nat} {e e' : E} (he : e.den SG v = e'.den SG v) : Blk.eqv SG v (.res k e) (.res k e') := Blk.eqv_res he

/-- the words stand for words -/
theorem wf_mem {v : V} {e e' : E} (he : G.u (U.mem (gmem (e.den SG v))) = e'.den SG v) : Blk.eqv SG v (.res 0 e) (.res 0 e') := fun n o h id hv hh => by
  subst hv
  simp only [Blk.holds] at *
  obtain ⟨sh, hsh, n0, o0, h1, h2, h3⟩ := (Lang.res_iff L (N := NK) (k := 0) (by decide) _ _ _ _).1 hh
  have hsh' : sh = memS := List.mem_singleton.1 hsh
  subst hsh'
  have e1 : e.den SG n.v = e'.den SG n.v := by rw [← he, h2.1]; rfl
  rw [← e1]; exact hh

def envAt (v : V) : Env U := ⟨v, fun _ => 0, fun _ => .bool false, fun _ => rfl⟩

section
variable {c : CO} {ret : SV} {r k i g a : Nat} {e0 e' e2 : E} {sh0 : Shape U}
/-- one end of the way: something is put together, one piece is left besides -/
theorem way1 (sh : Shape U) (hsh : sh ∈ kinds k) (σ : Nat → E) (τ : Nat → Nat) (hfit : foldFit sh.H σ τ c.H = true) (hok : c.ok = true) (hr : τ 1 = r) (hget : c.H.get i = some (.res 0 e'))
    (hnot : ((ids sh.H).map τ).contains i = false)
    (h : ∀ n : Env U, PT SG n.v c.pa → n.v g = sh0.enc (fun j => n.v (j + a)) → sh0.inv (fun j => n.v (j + a)) →
      c.ret.den SG n = ret.den SG n ∧ sh.inv (fun j => (σ j).den SG n.v) ∧ e0.den SG n.v = sh.enc (fun j => (σ j).den SG n.v) ∧ G.u (U.mem (gmem (e'.den SG n.v))) = e2.den SG n.v) :
    ∀ v : V, PT SG v c.pa → v g = sh0.enc (fun j => v (j + a)) → sh0.inv (fun j => v (j + a)) → EndOK L NK v c ret (some (r, k, e0)) [(i, .res 0 e2)] := fun v hp hg hi =>
  have hv := h (envAt v) hp hg hi
  endOK_fold hok (fun n hn => by subst hn; exact (h n hp hg hi).1) sh hsh σ τ hfit hr hv.2.2.1 hv.2.1 (rest_cons hnot hget (wf_mem hv.2.2.2) rest_nil)
theorem way0 (sh : Shape U) (hsh : sh ∈ kinds k) (σ : Nat → E) (τ : Nat → Nat) (hfit : foldFit sh.H σ τ c.H = true) (hok : c.ok = true) (hr : τ 1 = r)
    (h : ∀ n : Env U, PT SG n.v c.pa → n.v g = sh0.enc (fun j => n.v (j + a)) → sh0.inv (fun j => n.v (j + a)) →
      c.ret.den SG n = ret.den SG n ∧ sh.inv (fun j => (σ j).den SG n.v) ∧ e0.den SG n.v = sh.enc (fun j => (σ j).den SG n.v)) :
    ∀ v : V, PT SG v c.pa → v g = sh0.enc (fun j => v (j + a)) → sh0.inv (fun j => v (j + a)) → EndOK L NK v c ret (some (r, k, e0)) [] := fun v hp hg hi =>
  have hv := h (envAt v) hp hg hi
  endOK_fold hok (fun n hn => by subst hn; exact (h n hp hg hi).1) sh hsh σ τ hfit hr hv.2.2 hv.2.1 rest_nil
/-- this way is not gone -/
theorem wayNo {q : V → Prop} (h : ∀ n : Env U, PT SG n.v c.pa → n.v g = sh0.enc (fun j => n.v (j + a)) → sh0.inv (fun j => n.v (j + a)) → False) :
    ∀ v : V, PT SG v c.pa → v g = sh0.enc (fun j => v (j + a)) → sh0.inv (fun j => v (j + a)) → q v := fun v hp hg hi => (h (envAt v) hp hg hi).elim
end
end Go.Fl

/- How a function's template with several ends, and with what it asks ahead, is shown. -/
namespace Go.Fl
open Go Go.Sx Go.Proofs
variable [ExtF]
set_option maxRecDepth 100000

structure GSpec where
  args : List SV
  pre : SH
  nx : Nat
  outs : List OutG
  /-- what may not be -/
  reqs : List Path

def GSpec.t (g : GSpec) : Tmpl := ⟨g.args, g.pre, g.nx, g.outs.map OutG.co ++ g.reqs.map fun p => ⟨false, .tup [], [], 0, p⟩⟩
def GSpec.kB (g : GSpec) : Bool := g.outs.all fun x => match x.root with | some (_, k, _) => decide (k < 20) | none => true
def Req (g : GSpec) (v : V) : Prop := ∀ p ∈ g.reqs, ¬ PT SG v p
def GEnd (g : GSpec) (c : CO) : Prop := ∀ v : V, PT SG v c.pa → Req g v → ∃ x ∈ g.outs, PT SG v x.pa ∧ EndOK L NK v c x.ret x.root x.rest

theorem GSpec.ok {f : FuncId} {call : List SV → SH → Nat → Path → Option (List CO)} (hat : CallAt SG prog f call) (g : GSpec) (hk : g.kB = true)
    (hcase : ∃ cs, call g.args g.pre g.nx [] = some cs ∧ AllC cs (GEnd g)) : g.t.ok SG prog f := by
  refine Tmpl.gen (L := L) (N := NK) (outs := g.outs) hat (fun x hx => List.mem_append_left _ (List.mem_map.2 ⟨x, hx, rfl⟩)) (fun x hx r k e0 hr => ?_) ?_
  · have h2 := List.all_eq_true.1 hk x hx
    rw [hr] at h2
    refine ⟨of_decide_eq_true h2, fun sh hsh => ?_⟩
    have := kinds_ok k sh hsh
    simp only [shapeB, Bool.and_eq_true] at this
    exact ⟨this.1.1.1, this.2⟩
  · obtain ⟨cs, h1, h2⟩ := hcase
    exact ⟨cs, h1, fun c hc v hp hr => h2 c hc v hp fun p hpm => hr ⟨false, .tup [], [], 0, p⟩ (List.mem_append_right _ (List.mem_map.2 ⟨p, hpm, rfl⟩)) rfl⟩

section
variable {g : GSpec} {c : CO}
theorem gNo (h : ∀ n : Env U, PT SG n.v c.pa → Req g n.v → False) : GEnd g c := fun v hp hq => (h (envAt v) hp hq).elim
/-- a condition of this way, of which no variable is a part, is not so -/
theorem gBad (i : Nat) {e : E} {b : Bool} (hi : c.pa[i]? = some (e, b)) (h : ∀ v : V, (e.den SG v).toBool = !b) : GEnd g c := fun v hp _ => by
  have h1 := hp (e, b) (List.mem_of_getElem? hi)
  rw [h v] at h1
  cases b <;> cases h1
/-- nothing is put together -/
theorem gW (j : Nat) {x : OutG} (hx : g.outs[j]? = some x) (hok : c.ok = true) (hr : x.root = none) (hr0 : x.rest = [])
    (h : ∀ n : Env U, PT SG n.v c.pa → Req g n.v → PT SG n.v x.pa ∧ c.ret.den SG n = x.ret.den SG n) : GEnd g c := fun v hp hq => by
  refine ⟨x, List.mem_of_getElem? hx, (h (envAt v) hp hq).1, ?_⟩
  rw [hr, hr0]
  exact endOK_none hok (fun n hn => by subst hn; exact (h n hp hq).2) rest_nil
/-- the words are besides -/
theorem gWM (j : Nat) {x : OutG} {i : Nat} {e' e2 : E} (hx : g.outs[j]? = some x) (hok : c.ok = true) (hr : x.root = none) (hr0 : x.rest = [(i, .res 0 e2)]) (hget : c.H.get i = some (.res 0 e'))
    (h : ∀ n : Env U, PT SG n.v c.pa → Req g n.v → PT SG n.v x.pa ∧ c.ret.den SG n = x.ret.den SG n ∧ G.u (U.mem (gmem (e'.den SG n.v))) = e2.den SG n.v) : GEnd g c := fun v hp hq => by
  refine ⟨x, List.mem_of_getElem? hx, (h (envAt v) hp hq).1, ?_⟩
  rw [hr, hr0]
  exact endOK_none hok (fun n hn => by subst hn; exact (h n hp hq).2.1) (rest_cons rfl hget (wf_mem (h (envAt v) hp hq).2.2) rest_nil)
/-- something is put together -/
theorem gWR (j : Nat) {x : OutG} {r k : Nat} {e0 : E} (sh : Shape U) (hsh : sh ∈ kinds k) (σ : Nat → E) (τ : Nat → Nat) (hfit : foldFit sh.H σ τ c.H = true) (hx : g.outs[j]? = some x) (hok : c.ok = true)
    (hr : x.root = some (r, k, e0)) (ht : τ 1 = r) (hr0 : x.rest = [])
    (h : ∀ n : Env U, PT SG n.v c.pa → Req g n.v → PT SG n.v x.pa ∧ c.ret.den SG n = x.ret.den SG n ∧ sh.inv (fun j => (σ j).den SG n.v) ∧ e0.den SG n.v = sh.enc (fun j => (σ j).den SG n.v)) : GEnd g c := fun v hp hq => by
  refine ⟨x, List.mem_of_getElem? hx, (h (envAt v) hp hq).1, ?_⟩
  rw [hr, hr0]
  exact endOK_fold hok (fun n hn => by subst hn; exact (h n hp hq).2.1) sh hsh σ τ hfit ht (h (envAt v) hp hq).2.2.2 (h (envAt v) hp hq).2.2.1 rest_nil
/-- something is put together, the words are besides -/
theorem gWRM (j : Nat) {x : OutG} {r k i : Nat} {e0 e' e2 : E} (sh : Shape U) (hsh : sh ∈ kinds k) (σ : Nat → E) (τ : Nat → Nat) (hfit : foldFit sh.H σ τ c.H = true) (hx : g.outs[j]? = some x) (hok : c.ok = true)
    (hr : x.root = some (r, k, e0)) (ht : τ 1 = r) (hr0 : x.rest = [(i, .res 0 e2)]) (hget : c.H.get i = some (.res 0 e')) (hnot : ((ids sh.H).map τ).contains i = false)
    (h : ∀ n : Env U, PT SG n.v c.pa → Req g n.v → PT SG n.v x.pa ∧ c.ret.den SG n = x.ret.den SG n ∧ sh.inv (fun j => (σ j).den SG n.v) ∧ e0.den SG n.v = sh.enc (fun j => (σ j).den SG n.v) ∧
      G.u (U.mem (gmem (e'.den SG n.v))) = e2.den SG n.v) : GEnd g c := fun v hp hq => by
  refine ⟨x, List.mem_of_getElem? hx, (h (envAt v) hp hq).1, ?_⟩
  rw [hr, hr0]
  exact endOK_fold hok (fun n hn => by subst hn; exact (h n hp hq).2.1) sh hsh σ τ hfit ht (h (envAt v) hp hq).2.2.2.1 (h (envAt v) hp hq).2.2.1 (rest_cons hnot hget (wf_mem (h (envAt v) hp hq).2.2.2.2) rest_nil)
/-- an object that stands for itself at its number (made by a callee, not laid open here) -/
theorem gWK (j : Nat) {x : OutG} {i k : Nat} {e' e2 : E} (hx : g.outs[j]? = some x) (hok : c.ok = true) (hr : x.root = none) (hr0 : x.rest = [(i, .res k e2)]) (hget : c.H.get i = some (.res k e'))
    (h : ∀ n : Env U, PT SG n.v c.pa → Req g n.v → PT SG n.v x.pa ∧ c.ret.den SG n = x.ret.den SG n ∧ e'.den SG n.v = e2.den SG n.v) : GEnd g c := fun v hp hq => by
  refine ⟨x, List.mem_of_getElem? hx, (h (envAt v) hp hq).1, ?_⟩
  rw [hr, hr0]
  exact endOK_none hok (fun n hn => by subst hn; exact (h n hp hq).2.1) (rest_cons rfl hget (wf_res (h (envAt v) hp hq).2.2) rest_nil)
end

/-- A template said of other arguments: what the variables stand for is put in. -/
theorem Tmpl.recast {f : FuncId} {t : Tmpl} (ht : t.ok SG prog f) (σ : Nat → E) (args' : List SV) (hpre : t.pre = [])
    (ha : ∀ n : Env U, args'.map (SV.den SG n) = (t.args.map (SV.sub σ id)).map (SV.den SG n)) :
    (⟨args', [], t.nx, t.outs.map fun c => ⟨c.ok, c.ret.sub σ id, c.H.sub σ id, c.nx, c.pa.sub σ⟩⟩ : Tmpl).ok SG prog f := by
  intro n o w hs hfail
  have hargs : args'.map (SV.den SG n) = t.args.map (SV.den SG (n.pull SG σ id)) := by
    rw [ha n, List.map_map]
    exact List.map_congr_left fun x _ => SV.den_sub σ id x
  have hcall := ht (n.pull SG σ id) o w (by rw [hpre]; intro p hp; cases hp) (fun c hc hok hpt => hfail _ (List.mem_map.2 ⟨c, hc, rfl⟩) hok ((PT.sub_iff (n := n) σ id c.pa).2 hpt))
  rw [← hargs] at hcall
  refine Calls.mono hcall ?_
  rintro e w' ⟨c, hc, hok, hpt, n1, o1, rfl, hs1, hfr, hext⟩
  let n2 : Env U := { v := n.v, rho := n1.rho, om := n.om, om1 := n.om1 }
  have hom : n1.om = n.om := hext.om
  have henv : n2.pull SG σ id = n1 := by
    have h1 : n1.v = fun j => (σ j).den SG n.v := hext.v
    obtain ⟨v1, r1, om1, p1⟩ := n1
    simp only at h1 hom
    subst h1; subst hom
    rfl
  refine ⟨_, List.mem_map.2 ⟨c, hc, rfl⟩, hok, (PT.sub_iff (n := n) σ id c.pa).2 hpt, n2, o1, ?_, ?_, hfr, ⟨rfl, rfl, fun i hi => hext.rho i hi⟩⟩
  · rw [SV.den_sub, henv]
  · intro p hp
    obtain ⟨q, hq, rfl⟩ := List.mem_map.1 hp
    obtain ⟨h1, h2⟩ := hs1 q hq
    rw [← henv] at h2
    exact ⟨h1, (Blk.holds_sub (o1 := o1) (o := o1) σ id fun _ _ => Iff.rfl).1 h2⟩
end Go.Fl

/- Loops of the program: what they come to; a few laws on running step by step. -/
namespace Go.Fl
open Go Go.Sx Go.Proofs
variable [ExtF]
set_option maxRecDepth 100000

/-- the body of the loop at a place of a function's text -/
noncomputable def loopAt (f : Nat) (p : List Nat) : Code :=
  match tab.fi f with
  | some i => match codeAt i.body p with
    | some (.loop b) => b
    | _ => .skip
  | none => .skip

theorem lh_ok {f : Nat} {tt : List (List Nat × LoopT)} (h : ∀ x ∈ tt, x.2.ok SG prog (loopAt f x.1)) : ∀ i, tab.fi f = some i → LoopOK SG prog i.body (lhOf tt) := fun i hi =>
  lhOf_ok fun x hx body hb => by
    have := h x hx
    unfold loopAt at this
    rw [hi] at this
    simp only [hb] at this
    exact this

def AllL (l : List Leaf) (p : Leaf → Prop) : Prop := ∀ c ∈ l, p c
end Go.Fl
namespace Go.Fl
open Go Go.Sx Go.Proofs
set_option maxRecDepth 100000
theorem allL_nil (p : Leaf → Prop) : AllL [] p := fun c h => by cases h
theorem allL_cons {c : Leaf} {l : List Leaf} {p : Leaf → Prop} (h : p c) (h' : AllL l p) : AllL (c :: l) p := fun x hx => by
  rcases List.mem_cons.1 hx with rfl | hx
  · exact h
  · exact h' x hx

end Go.Fl
namespace Go.Fl
open Go Go.Sx Go.Proofs
variable [ExtF]
set_option maxRecDepth 100000
def ReqL (t : LoopT) (v : V) : Prop := ∀ y ∈ t.outs, y.1 = .fail → ¬ PT SG v y.2.pa

theorem loop_ok {tm : CH} (htm : CallOK SG prog tm) {f : Nat} {p : List Nat} {t : LoopT} {ls : List Leaf} (μ : V → Nat)
    (hls : exec tab (callX tab tm 20 20) 20 (loopAt f p) ⟨t.tm, t.pre, t.nx, []⟩ = some ls) (hnx : t.outs.all (fun y => decide (t.nx ≤ y.2.nx)) = true)
    (h : AllL ls fun x => ∀ v : V, PT SG v x.2.pa → ReqL t v → RoundOK SG t μ x v) : t.ok SG prog (loopAt f p) :=
  LoopT.ok_of (fun Q st ls n o w a h1 h2 h3 => exec_sound tab_ok (callX_sound tab_ok htm 20 20) 20 _ Q st ls n o w a h1 h2 h3) hls μ hnx h

/-- the end of a round from which it goes on: the pieces of memory -/
def PcsOK (v : V) (H : SH) (σ : Nat → E) (pre : SH) : Prop := ∀ p ∈ pre, ∃ b, H.get p.1 = some b ∧ Blk.eqv SG v b (p.2.sub σ id)
theorem pcs_nil (v : V) (H : SH) (σ : Nat → E) : PcsOK v H σ [] := fun p h => by cases h
theorem pcs_cons {v : V} {H : SH} {σ : Nat → E} {i : Nat} {b x : Blk} {l : SH} (h1 : H.get i = some x) (h2 : Blk.eqv SG v x (b.sub σ id)) (h : PcsOK v H σ l) : PcsOK v H σ ((i, b) :: l) := fun p hp => by
  rcases List.mem_cons.1 hp with rfl | hp
  · exact ⟨x, h1, h2⟩
  · exact h p hp
def EndsOK (v : V) (H : SH) (l : SH) : Prop := ∀ p ∈ l, ∃ b, H.get p.1 = some b ∧ Blk.eqv SG v b p.2
theorem ends_nil (v : V) (H : SH) : EndsOK v H [] := fun p h => by cases h
theorem ends_cons {v : V} {H : SH} {i : Nat} {b x : Blk} {l : SH} (h1 : H.get i = some x) (h2 : Blk.eqv SG v x b) (h : EndsOK v H l) : EndsOK v H ((i, b) :: l) := fun p hp => by
  rcases List.mem_cons.1 hp with rfl | hp
  · exact ⟨x, h1, h2⟩
  · exact h p hp
theorem eqv_rfl (v : V) (x : Blk) : Blk.eqv SG v x x := Blk.eqv_refl x

/-- a round that goes on -/
theorem round_on {t : LoopT} {μ : V → Nat} {s : St} {v : V} (σ : Nat → E) (h1 : tmFit σ id t.tm s.tm = true) (h2 : PcsOK v s.H σ t.pre) (h3 : μ (fun j => (σ j).den SG v) < μ v)
    (h4 : ReqL t fun j => (σ j).den SG v) (h5 : ∀ y ∈ t.outs, y.1 ≠ .fail → ∀ e ∈ y.2.es, e.den SG (fun j => (σ j).den SG v) = e.den SG v) : RoundOK SG t μ (.norm, s) v :=
  ⟨σ, ⟨h1, h2⟩, h3, fun y hy => ⟨h4 y hy, h5 y hy⟩⟩
/-- as 'round_on': what does not turn has variables below u alone, what turns stands in rs -/
theorem round_on' {t : LoopT} {μ : V → Nat} {s : St} {v : V} (u : Nat) (rs : List E) (σ : Nat → E) (h1 : tmFit σ id t.tm s.tm = true) (h2 : PcsOK v s.H σ t.pre) (h3 : μ (fun j => (σ j).den SG v) < μ v)
    (h4 : ReqL t fun j => (σ j).den SG v) (hb : t.outs.all (fun y => decide (y.1 = .fail) || y.2.es.all fun e => e.vlt u || rs.contains e) = true)
    (hu : ∀ i, i < u → (σ i).den SG v = v i) (hr : ∀ e ∈ rs, e.den SG (fun j => (σ j).den SG v) = e.den SG v) : RoundOK SG t μ (.norm, s) v :=
  round_on σ h1 h2 h3 h4 fun y hy hf e he => by
    have h := List.all_eq_true.1 hb y hy
    simp only [hf, decide_false, Bool.false_or, List.all_eq_true, Bool.or_eq_true] at h
    rcases h e he with h | h
    · exact E.den_vlt hu h
    · exact hr e (List.contains_iff_mem.1 h)
/-- a round that ends it -/
theorem round_exit {t : LoopT} {μ : V → Nat} {i : Nat} {s y : St} {v : V} (hy : ((.exit i, y) : Leaf) ∈ t.outs) (h1 : tmSame y.tm s.tm = true) (h2 : EndsOK v s.H y.H) (h3 : PT SG v y.pa) : RoundOK SG t μ (.exit i, s) v :=
  ⟨_, hy, rfl, tmSame_eq h1, h2, h3⟩
theorem round_ret {t : LoopT} {μ : V → Nat} {s y : St} {v : V} (hy : ((.ret, y) : Leaf) ∈ t.outs) (h1 : tmSame y.tm s.tm = true) (h2 : EndsOK v s.H y.H) (h3 : PT SG v y.pa) : RoundOK SG t μ (.ret, s) v :=
  ⟨_, hy, rfl, tmSame_eq h1, h2, h3⟩

/-- an object is what its shapes say, whatever stands for it -/
theorem wf_can {v : V} {k : Nat} {e e' : E} (can : GU → GU) (hk : k < 20) (hc : ∀ sh ∈ kinds k, ∀ u, can (sh.enc u) = sh.enc u) (he : can (e.den SG v) = e'.den SG v) :
    Blk.eqv SG v (.res k e) (.res k e') := fun n o h id hv hh => by
  subst hv
  simp only [Blk.holds] at *
  obtain ⟨sh, hsh, n0, o0, h1, h2, h3⟩ := (Lang.res_iff L (N := NK) (k := k) hk _ _ _ _).1 hh
  have e1 : e.den SG n.v = e'.den SG n.v := by rw [← he, h2.1, hc sh hsh]
  rw [← e1]; exact hh
theorem wf_act {v : V} {e e' : E} (he : G.u (U.act (gact (e.den SG v))) = e'.den SG v) : Blk.eqv SG v (.res 7 e) (.res 7 e') := by
  refine wf_can (fun g => G.u (U.act (gact g))) (by decide) (fun sh hsh u => ?_) he
  simp only [kinds, List.mem_cons, List.not_mem_nil, or_false] at hsh
  rcases hsh with rfl | rfl | rfl <;> rfl
theorem wf_lst {v : V} {e e' : E} (he : G.u (U.lst (glst (e.den SG v))) = e'.den SG v) : Blk.eqv SG v (.res 8 e) (.res 8 e') := by
  refine wf_can (fun g => G.u (U.lst (glst g))) (by decide) (fun sh hsh u => ?_) he
  simp only [kinds, List.mem_cons, List.not_mem_nil, or_false] at hsh
  rcases hsh with rfl | rfl <;> rfl

/-! ### running step by step -/
end Go.Fl
namespace Go.Fl
open Go Go.Sx Go.Proofs
set_option maxRecDepth 100000
theorem runAct_done {c : Cfg} {w : Int} {k : Nat} {a : Act} {m : Mem} (h : (actStep c w a m).2.2 = true) : runAct c w (k + 1) a m = ((actStep c w a m).1, (actStep c w a m).2.1) := by
  simp only [runAct, h, if_true]
theorem runAct_on {c : Cfg} {w : Int} {k : Nat} {a : Act} {m : Mem} (h : (actStep c w a m).2.2 = false) : runAct c w (k + 1) a m = runAct c w k (actStep c w a m).1 (actStep c w a m).2.1 := by
  simp only [runAct, h, Bool.false_eq_true, if_false]
theorem runLst_done {c : Cfg} {w : Int} {k : Nat} {a : Lst} {m : Mem} (h : (listStep c w a m).2.2 = true) : runLst c w (k + 1) a m = ((listStep c w a m).1, (listStep c w a m).2.1) := by
  simp only [runLst, h, if_true]
theorem runLst_on {c : Cfg} {w : Int} {k : Nat} {a : Lst} {m : Mem} (h : (listStep c w a m).2.2 = false) : runLst c w (k + 1) a m = runLst c w k (listStep c w a m).1 (listStep c w a m).2.1 := by
  simp only [runLst, h, Bool.false_eq_true, if_false]
theorem i64_in {n : Int} (h : -9223372036854775808 ≤ n ∧ n ≤ 9223372036854775807) : i64 n = n := IntWalk.i64_in n h
end Go.Fl
namespace Go.Fl
open Go Go.Sx Go.Proofs
variable [ExtF]
set_option maxRecDepth 100000
end Go.Fl

/- Templates, level 2: the words. -/
namespace Go.Fl
open Go Go.Sx
variable [ExtF]

/-- the memory is number 1 and stands for var 0, the arena's shape is var 1, who asks is var 2 -/
def ev : SV := envV 1 1 2
def pV : SV := .one (.c (.ptr 1 (.int 0)))
def memSp (args : List SV) (ret : SV) (m : E) : MSpec := ⟨0, 0, 10, 2, 20, 2, args, [], ret, some (1, 0, m), []⟩
def mLoad : MSpec := memSp [ev, iE (.var 3)] (uE (.f2 20 (.var 0) (.var 3))) (.f3 3 (.var 0) (.var 2) (.var 3))
def mStore : MSpec := memSp [ev, iE (.var 3), uE (.var 4)] (.tup []) (.f4 10 (.var 0) (.var 2) (.var 3) (.var 4))
def mCas : MSpec := memSp [ev, iE (.var 3), uE (.var 4), uE (.var 5)] (bE (.f3 2 (.var 0) (.var 3) (.var 4))) (.f4 12 (.f2 22 (.var 0) (.var 2)) (.var 3) (.var 4) (.var 5))
def mAdd : MSpec := memSp [ev, iE (.var 3), iE (.var 4)] (.tup []) (.f4 11 (.var 0) (.var 2) (.var 3) (.var 4))
def mNow : MSpec := memSp [ev] (iE (.f1 41 (.var 0))) (.var 0)
def mPeek : MSpec := memSp [pV, iE (.var 3)] (uE (.f2 20 (.var 0) (.var 3))) (.var 0)
def mWhen : MSpec := memSp [pV, iE (.var 3)] (iE (.f2 21 (.var 0) (.var 3))) (.var 0)
def mSteps : MSpec := memSp [pV] (iE (.f1 41 (.var 0))) (.var 0)
def mMemLen : MSpec := memSp [pV] (iE (.f1 45 (.var 0))) (.var 0)
def mLast : MSpec := memSp [pV] (.one (.agg [.int .i64 (.f1 42 (.var 0)), .int .i64 (.f1 43 (.var 0)), .bool (.f1 44 (.var 0))])) (.var 0)
def specs2 : List (String × Nat × MSpec) := [("mLoad", 189, mLoad), ("mStore", 191, mStore), ("mCas", 184, mCas), ("mAdd", 268, mAdd), ("mNow", 40, mNow), ("mPeek", 51, mPeek), ("mWhen", 355, mWhen),
  ("mSteps", 86, mSteps), ("mMemLen", 92, mMemLen), ("mLast", 50, mLast)]
def inW (w : List Int) (a : Int) : Bool := !(decide (a < 0)) && decide (a < w.length)
end Go.Fl
namespace Go.Fl
open Go Go.Sx

theorem okA_inW (m : Mem) (a : Int) : m.okA a = inW m.w a := rfl
theorem inW_t {w : List Int} {a : Int} (h : ¬ a < 0) (h' : a < w.length) : inW w a = true := by simp only [inW, h, h', decide_true, decide_false, Bool.not_false, Bool.and_self]
theorem inW_f {w : List Int} {a : Int} (h : a < 0 ∨ ¬ a < w.length) : inW w a = false := by
  rcases h with h | h <;> simp only [inW, h, decide_true, decide_false, Bool.not_true, Bool.false_and, Bool.and_false]
theorem cas_by (m : Mem) (w a o x : Int) : (m.by' w).cas (m.by' w).who a o x = m.cas w a o x := rfl
theorem arith_add (k : IntKind) (a b : Int) : arithInt .add k a b = k.wrap (a + b) := rfl
theorem arith_sub (k : IntKind) (a b : Int) : arithInt .sub k a b = k.wrap (a - b) := rfl
theorem arith_mul (k : IntKind) (a b : Int) : arithInt .mul k a b = k.wrap (a * b) := rfl
end Go.Fl
namespace Go.Fl
open Go Go.Sx
variable [ExtF]

end Go.Fl
