/- Links come back as they were laid: in plain Lean. -/
import Derived.Test.YtdkjpjiljplahaaGreatMc
import Derived.Test.YtdkjpjiljplahaaGreatMk
namespace Go.Fl
open Go Go.Sx

theorem u64_mod (n : Int) : u64 n = n % 18446744073709551616 := by
  simp only [u64, IntKind.wrap, IntKind.signed, IntKind.bits]
  simp
theorem i64_in' {n : Int} (h : -9223372036854775808 ≤ n ∧ n ≤ 9223372036854775807) : i64 n = n := IntWalk.i64_in n h
theorem toNat_ofInt64 (x : Int) : (BitVec.ofInt 64 x).toNat = (x % 18446744073709551616).toNat := by
  simp [BitVec.toNat_ofInt]
theorem and_low (a : Nat) : a &&& 4294967295 = a % 4294967296 := Nat.and_two_pow_sub_one_eq_mod a 32
theorem uand (x y : Int) : bitsInt .and .u64 x y = u64 (((x % 18446744073709551616).toNat &&& (y % 18446744073709551616).toNat : Nat) : Int) := by
  show u64 ((BitVec.ofInt 64 x &&& BitVec.ofInt 64 y).toNat : Int) = _
  rw [BitVec.toNat_and, toNat_ofInt64, toNat_ofInt64]
theorem iand (x y : Int) : ibits .and x y = i64 (((x % 18446744073709551616).toNat &&& (y % 18446744073709551616).toNat : Nat) : Int) := by
  show i64 ((BitVec.ofInt 64 x &&& BitVec.ofInt 64 y).toNat : Int) = _
  rw [BitVec.toNat_and, toNat_ofInt64, toNat_ofInt64]
theorem ior (x y : Int) : ibits .or x y = i64 (((x % 18446744073709551616).toNat ||| (y % 18446744073709551616).toNat : Nat) : Int) := by
  show i64 ((BitVec.ofInt 64 x ||| BitVec.ofInt 64 y).toNat : Int) = _
  rw [BitVec.toNat_or, toNat_ofInt64, toNat_ofInt64]
/-- the lower 32 bits -/
theorem uand_low (x : Int) : bitsInt .and .u64 x 4294967295 = x % 4294967296 := by
  rw [uand, show ((4294967295 : Int) % 18446744073709551616).toNat = 4294967295 from rfl, and_low, u64_mod]
  omega
theorem nand_bit (n : Nat) : n &&& 2 ^ 32 = if n.testBit 32 then 2 ^ 32 else 0 := by
  apply Nat.eq_of_testBit_eq
  intro i
  rw [Nat.testBit_and, Nat.testBit_two_pow]
  by_cases h : 32 = i
  · subst h
    cases n.testBit 32
    · simp
    · rw [if_pos rfl, Nat.testBit_two_pow]; simp
  · cases n.testBit 32
    · simp [h]
    · rw [if_pos rfl, Nat.testBit_two_pow]; simp [h]
theorem iand_bit (n : Int) (h0 : 0 ≤ n) (h : n < 8589934592) : ibits .and n 4294967296 = if n < 4294967296 then 0 else 4294967296 := by
  rw [iand, show ((4294967296 : Int) % 18446744073709551616).toNat = 2 ^ 32 from rfl, nand_bit, Nat.testBit_eq_decide_div_mod_eq]
  have e : (n % 18446744073709551616).toNat = n.toNat := by omega
  rw [e]
  by_cases hn : n < 4294967296
  · have : n.toNat / 2 ^ 32 = 0 := Nat.div_eq_of_lt (by omega)
    rw [this, if_pos hn]; rfl
  · have : n.toNat / 2 ^ 32 = 1 := by omega
    rw [this, if_neg hn]; rfl
theorem ior_bit (n : Int) (h0 : 0 ≤ n) (h : n < 4294967296) : ibits .or n 4294967296 = n + 4294967296 := by
  have e : (n % 18446744073709551616).toNat = n.toNat := by omega
  rw [ior, show ((4294967296 : Int) % 18446744073709551616).toNat = 2 ^ 32 * 1 from rfl, e, Nat.or_comm, ← Nat.two_pow_add_eq_or_of_lt (by omega : n.toNat < 2 ^ 32) 1, i64_in' (by omega)]
  omega

theorem linkNext_mod (n : Int) : linkNext n = n % 4294967296 := by
  simp only [linkNext]
  rw [uand_low, u64_mod]
  omega
theorem putLink_val (a : Int) (g : Bool) (h0 : 0 ≤ a) (h : a < 4294967296) : putLink a g = if g then a + 4294967296 else a := by
  have e : i64 (band a 4294967295) = a := by
    simp only [band]
    rw [uand_low, i64_in' (by omega)]
    omega
  simp only [putLink, e]
  cases g
  · simp
  · simp only [if_true]; exact ior_bit a h0 h
theorem link_next (a : Int) (g : Bool) (h0 : 0 ≤ a) (h : a < 4294967296) : linkNext (putLink a g) = a := by
  rw [linkNext_mod, putLink_val a g h0 h]
  cases g <;> simp <;> omega
theorem link_gone (a : Int) (g : Bool) (h0 : 0 ≤ a) (h : a < 4294967296) : linkGone (putLink a g) = g := by
  rw [putLink_val a g h0 h]
  simp only [linkGone]
  cases g
  · simp only [Bool.false_eq_true, if_false]
    rw [iand_bit a h0 (by omega), if_pos h]; rfl
  · simp only [if_true]
    rw [iand_bit _ (by omega) (by omega), if_neg (by omega)]; rfl
theorem gone_val (n : Int) (h0 : 0 ≤ n) (h : n < 8589934592) : linkGone n = !decide (n < 4294967296) := by
  simp only [linkGone]
  rw [iand_bit n h0 h]
  by_cases hn : n < 4294967296
  · rw [if_pos hn]; simp [hn]
  · rw [if_neg hn]; simp [hn]
theorem put_link (n : Int) (h0 : 0 ≤ n) (h : n < 8589934592) : putLink (linkNext n) (linkGone n) = n := by
  rw [linkNext_mod, putLink_val _ _ (by omega) (by omega), gone_val n h0 h]
  by_cases hn : n < 4294967296
  · simp [hn]; omega
  · simp [hn]; omega
theorem put_le (a : Int) (g : Bool) (h0 : 0 ≤ a) (h : a < 4294967296) : ¬ (1099511627775 : Int) < putLink a g := by
  rw [putLink_val a g h0 h]
  cases g <;> simp <;> omega
/-- a number's lower 33 bits -/
theorem iand_33 (x : Int) : 0 ≤ ibits .and x 8589934591 ∧ ibits .and x 8589934591 < 8589934592 := by
  rw [iand, show ((8589934591 : Int) % 18446744073709551616).toNat = 2 ^ 33 - 1 from rfl, Nat.and_two_pow_sub_one_eq_mod, i64_in' (by omega)]
  omega
theorem link_next' (x : Int) (g : Bool) : linkNext (putLink (x % 4294967296) g) = x % 4294967296 := link_next _ g (by omega) (by omega)
theorem link_gone' (x : Int) (g : Bool) : linkGone (putLink (x % 4294967296) g) = g := link_gone _ g (by omega) (by omega)
theorem put_le' (x : Int) (g : Bool) : ltI 1099511627775 (putLink (x % 4294967296) g) = false := decide_eq_false (put_le _ g (by omega) (by omega))
theorem put_link' (x : Int) : putLink (linkNext (bitsInt .and .i64 x 8589934591)) (linkGone (bitsInt .and .i64 x 8589934591)) = bitsInt .and .i64 x 8589934591 :=
  put_link _ (iand_33 x).1 (iand_33 x).2
theorem put_le2 (x : Int) (g : Bool) : ¬ (1099511627775 : Int) < putLink (x % 4294967296) g := put_le _ g (by omega) (by omega)
end Go.Fl

/- What a list tells that begins nowhere: in plain Lean. -/
namespace Go.Fl
open Go Go.Sx
set_option maxRecDepth 100000

theorem uand_16 (x : Int) : bitsInt .and .u64 x 65535 = x % 65536 := by
  rw [uand, show ((65535 : Int) % 18446744073709551616).toNat = 2 ^ 16 - 1 from rfl, Nat.and_two_pow_sub_one_eq_mod, u64_mod]
  omega
theorem shr_16 (x : Int) : shr x 16 = x / 65536 := by
  show x.fdiv (2 ^ (min (16 : Int).toNat 64)) = _
  rw [show (2 : Int) ^ (min (16 : Int).toNat 64) = 65536 from rfl, Int.fdiv_eq_ediv_of_nonneg _ (by decide)]
theorem shr_32 (x : Int) : shr x 32 = x / 4294967296 := by
  show x.fdiv (2 ^ (min (32 : Int).toNat 64)) = _
  rw [show (2 : Int) ^ (min (32 : Int).toNat 64) = 4294967296 from rfl, Int.fdiv_eq_ediv_of_nonneg _ (by decide)]
theorem handle_val {x : Int} (h : handleOk x = true) : 0 ≤ handleSlot x ∧ x = handleGen x * 65536 + handleSlot x := by
  have h' := h
  simp only [handleOk, shr_32, shr_16, Bool.and_eq_true, beq_iff_eq, Bool.not_eq_true', beq_eq_false_iff_ne, ne_eq] at h
  simp only [handleSlot, handleGen, h', if_true, band, uand_16, shr_16]
  rw [i64_in' (by omega), i64_in' (by omega)]
  omega

theorem runLst5 {c : Cfg} {w : Int} {k : Nat} {l l1 l2 l3 l4 l5 : Lst} {m m1 m2 m3 m4 m5 : Mem} (h1 : listStep c w l m = (l1, m1, false)) (h2 : listStep c w l1 m1 = (l2, m2, false))
    (h3 : listStep c w l2 m2 = (l3, m3, false)) (h4 : listStep c w l3 m3 = (l4, m4, false)) (h5 : listStep c w l4 m4 = (l5, m5, true)) : runLst c w (k + 5) l m = (l5, m5) := by
  simp only [runLst, h1, h2, h3, h4, h5, Bool.false_eq_true, if_false, if_true]

theorem ls_on {c : Cfg} {w : Int} {l : Lst} {a a' : Act} {m m' : Mem} (hl : l.a = some a) (h : actStep c w a m = (a', m', false)) : listStep c w l m = ({ l with a := some a' }, m', false) := by
  simp only [listStep, hl, h, Bool.false_eq_true, if_false]
theorem as_in {c : Cfg} {w : Int} {a : Act} {p : In} {m m' : Mem} (h0 : a.pc = 0) (h : inStep w a.inn m = (p, m', true)) : actStep c w a m = ({ a with inn := p, pc := 1 }, m', false) := by
  simp only [actStep, h0, h, if_true]
theorem as_work {c : Cfg} {w : Int} {a : Act} {x : Work} {m m' : Mem} (h0 : a.pc = 1) (h : workStep c w a.work m = (x, m', true)) : actStep c w a m = ({ a with work := x, out := x.out, pc := 2 }, m', false) := by
  simp only [actStep, h0, h, if_true, Int.reduceEq, if_false]
theorem ws_access {c : Cfg} {w : Int} {a a' : Access} {m m' : Mem} (h : accessStep c w a m = (a', m', true)) : workStep c w (.access a) m = (.access a', m', true) := by
  simp only [workStep, h]

section
variable (c : Cfg) (kind key head : Int)
def bA (p : In) (pc : Int) (a : Access) (d : Done) : Act := ⟨p, pc, .access a, d⟩
def bL (x : Option Act) (d : Done) : Lst := ⟨kind, key, head, 0, x, 0, 0, 0, 0, 0, d⟩
def bX : Access := accessNew 1 head 1 0 0 true
def d0 : Done := ⟨0, 0, 0, 0⟩
theorem bad1 (m : Mem) : listStep c 0 (bL kind key head none d0) m = (bL kind key head (some (bA ⟨1, m.val 0⟩ 0 (bX head) d0)) d0, m.load 0 0, false) := rfl
theorem bad2 (m : Mem) (ep : Int) : listStep c 0 (bL kind key head (some (bA ⟨1, ep⟩ 0 (bX head) d0)) d0) m = (bL kind key head (some (bA ⟨2, ep⟩ 0 (bX head) d0)) d0, m.store 0 (pinAt 0) (u64 (ep + 1)), false) := rfl
theorem bad3 (m : Mem) (ep : Int) (h : m.val 0 = ep) : listStep c 0 (bL kind key head (some (bA ⟨2, ep⟩ 0 (bX head) d0)) d0) m = (bL kind key head (some (bA ⟨2, ep⟩ 1 (bX head) d0)) d0, m.load 0 0, false) := by
  have e : inStep 0 ⟨2, ep⟩ m = (⟨2, ep⟩, m.load 0 0, true) := by
    show (if m.val 0 = ep then ((⟨2, ep⟩ : In), m.load 0 0, true) else (⟨1, m.val 0⟩, m.load 0 0, false)) = _
    rw [if_pos h]
  exact ls_on (a := bA ⟨2, ep⟩ 0 (bX head) d0) rfl (as_in (a := bA ⟨2, ep⟩ 0 (bX head) d0) rfl e)
theorem bad4 (m : Mem) (p : In) (a : Access) (m' : Mem) (st : Int) (h : accessStep c 0 (bX head) m = (a, m', true)) (ho : a.out = ⟨3, 0, 0, st⟩) :
    listStep c 0 (bL kind key head (some (bA p 1 (bX head) d0)) d0) m = (bL kind key head (some (bA p 2 a ⟨3, 0, 0, st⟩)) d0, m', false) := by
  have e := ls_on (l := bL kind key head (some (bA p 1 (bX head) d0)) d0) rfl (as_work (c := c) (w := 0) (a := bA p 1 (bX head) d0) rfl (ws_access h))
  rw [e, ← ho]; rfl
theorem bad5 (m : Mem) (p : In) (a : Access) (st : Int) :
    listStep c 0 (bL kind key head (some (bA p 2 a ⟨3, 0, 0, st⟩)) d0) m = (bL kind key head none ⟨3, 0, 0, st⟩, m.store 0 (pinAt 0) 0, true) := rfl
end

def m40 : Mem := (begunD 4).2
def m41 : Mem := m40.load 0 0
def m42 : Mem := m41.store 0 (pinAt 0) (u64 (m40.val 0 + 1))
def m43 : Mem := m42.load 0 0
theorem m42_ep : m42.val 0 = m40.val 0 := by kernel_rfl
def slot4 (s : Int) : Int := m43.val (slotAt (cfgA 4 4 12 40) s)
theorem slot4_0 : (slotState (slot4 0) = 1) ∧ slotGen (slot4 0) = 1 := ⟨by kernel_rfl, by kernel_rfl⟩
theorem slot4_1 : slotState (slot4 1) = 0 := by kernel_rfl
theorem slot4_2 : slotState (slot4 2) = 0 := by kernel_rfl
theorem slot4_3 : slotState (slot4 3) = 0 := by kernel_rfl
theorem live4 {s g : Int} (h0 : 0 ≤ s) (h4 : s < 4) (h : s = 0 → g ≠ 1) : live (slotState (slot4 s)) (slotGen (slot4 s)) g = false := by
  have hs : s = 0 ∨ s = 1 ∨ s = 2 ∨ s = 3 := by omega
  rcases hs with rfl | rfl | rfl | rfl
  · have : ((1 : Int) == g) = false := by simp; exact fun e => h rfl e.symm
    rw [slot4_0.1, slot4_0.2]
    simp only [live, this, Bool.and_false]
  · rw [slot4_1]; rfl
  · rw [slot4_2]; rfl
  · rw [slot4_3]; rfl

theorem acc4 (head : Int) (hh : head ≠ 65536) : ∃ a m' st, accessStep (cfgA 4 4 12 40) 0 (bX head) m43 = (a, m', true) ∧ a.out = ⟨3, 0, 0, st⟩ := by
  by_cases hc : handleOk head = false ∨ ¬ handleSlot head < (cfgA 4 4 12 40).slots
  · refine ⟨{ bX head with hslot := handleSlot head, hgen := handleGen head, out := ⟨3, 0, 0, m43.steps⟩ }, m43, m43.steps, ?_, rfl⟩
    show (if handleOk head = false ∨ ¬ handleSlot head < (cfgA 4 4 12 40).slots then _ else _) = _
    rw [if_pos hc]; rfl
  · have h1 : handleOk head = true := by
      cases hb : handleOk head with
      | true => rfl
      | false => exact absurd (.inl hb) hc
    have h2 : handleSlot head < 4 := by
      by_cases hx : handleSlot head < 4
      · exact hx
      · exact absurd (.inr hx) hc
    obtain ⟨h3, h4⟩ := handle_val h1
    have hl := live4 h3 h2 (g := handleGen head) (fun hs hg => hh (by rw [h4, hs, hg]; rfl))
    refine ⟨⟨1, head, 1, 0, 0, true, handleSlot head, handleGen head, 1, slot4 (handleSlot head), 0, (m43.load 0 (slotAt (cfgA 4 4 12 40) (handleSlot head))).steps, 0, 0, none,
      ⟨3, 0, 0, (m43.load 0 (slotAt (cfgA 4 4 12 40) (handleSlot head))).steps⟩⟩, m43.load 0 (slotAt (cfgA 4 4 12 40) (handleSlot head)), _, ?_, rfl⟩
    show (if handleOk head = false ∨ ¬ handleSlot head < (cfgA 4 4 12 40).slots then _ else _) = _
    rw [if_neg hc]
    show (if live (slotState (slot4 (handleSlot head))) (slotGen (slot4 (handleSlot head))) (handleGen head) then _ else _) = _
    rw [hl]; rfl

theorem ask_bad (head kind key : Int) (hk : listCheck kind key = true) (hh : head ≠ 65536) : (askP (cfgA 4 4 12 40) 0 head kind key m40).1.e = 3 := by
  obtain ⟨a, m', st, h, ho⟩ := acc4 head hh
  have hr := runLst5 (k := 19995) (bad1 (cfgA 4 4 12 40) kind key head m40) (bad2 _ kind key head m41 (m40.val 0)) (bad3 _ kind key head m42 (m40.val 0) m42_ep) (bad4 _ kind key head m43 _ a m' st h ho) (bad5 _ kind key head m' _ a st)
  unfold askP
  rw [if_pos hk]
  show (runLst (cfgA 4 4 12 40) 0 (19995 + 5) (bL kind key head none d0) m40).1.out.e = 3
  rw [hr]
  rfl
end Go.Fl

/- Templates, level 15: a statement: links. -/
namespace Go.Fl
open Go Go.Sx Go.Proofs
variable [ExtF]

def tl14 : List (Nat × Tmpl) := (30, gAwake.t) :: tl13
theorem tl14_ok : AllT tl14 := allT_cons gAwake_ok tl13_ok
def tm14 : CH := tmOf tl14
theorem tm14_ok : CallOK SG prog tm14 := tmOf_ok tl14_ok
def gLinks : GSpec := ⟨[.one (.agg [xu 0, xb 1]), iE (.var 2)], [], 1, [val (bE (.bool true))], []⟩
def gNone : GSpec := ⟨[iE v0, iE v1, uE v2], [], 1, [val (bE (.bool true))], []⟩
end Go.Fl
