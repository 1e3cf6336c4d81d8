/- Links come back as they were laid: in plain Lean. -/
import Derived.Test.YtdkjpjiljplahaaGreatMc
namespace Go.Fl
open Go Go.Sx

theorem u64_mod (n : Int) : u64 n = n % 18446744073709551616 := by
  simp only [u64, IntKind.wrap, IntKind.signed, IntKind.bits]
  simp
theorem i64_in' {n : Int} (h : -9223372036854775808 ≤ n ∧ n ≤ 9223372036854775807) : i64 n = n := IntWalk.i64_in n h
theorem toNat_ofInt64 (x : Int) : (BitVec.ofInt 64 x).toNat = (x % 18446744073709551616).toNat := by
  simp [BitVec.toNat_ofInt]
theorem and_low (a : Nat) : a &&& 4294967295 = a % 4294967296 := Nat.and_two_pow_sub_one_eq_mod a 32
theorem uand (x y : Int) : bitsInt .and .u64 x y = u64 (((x % 18446744073709551616).toNat &&& (y % 18446744073709551616).toNat : Nat) : Int) := by
  show u64 ((BitVec.ofInt 64 x &&& BitVec.ofInt 64 y).toNat : Int) = _
  rw [BitVec.toNat_and, toNat_ofInt64, toNat_ofInt64]
theorem iand (x y : Int) : ibits .and x y = i64 (((x % 18446744073709551616).toNat &&& (y % 18446744073709551616).toNat : Nat) : Int) := by
  show i64 ((BitVec.ofInt 64 x &&& BitVec.ofInt 64 y).toNat : Int) = _
  rw [BitVec.toNat_and, toNat_ofInt64, toNat_ofInt64]
theorem ior (x y : Int) : ibits .or x y = i64 (((x % 18446744073709551616).toNat ||| (y % 18446744073709551616).toNat : Nat) : Int) := by
  show i64 ((BitVec.ofInt 64 x ||| BitVec.ofInt 64 y).toNat : Int) = _
  rw [BitVec.toNat_or, toNat_ofInt64, toNat_ofInt64]
/-- the lower 32 bits -/
theorem uand_low (x : Int) : bitsInt .and .u64 x 4294967295 = x % 4294967296 := by
  rw [uand, show ((4294967295 : Int) % 18446744073709551616).toNat = 4294967295 from rfl, and_low, u64_mod]
  omega
theorem nand_bit (n : Nat) : n &&& 2 ^ 32 = if n.testBit 32 then 2 ^ 32 else 0 := by
  apply Nat.eq_of_testBit_eq
  intro i
  rw [Nat.testBit_and, Nat.testBit_two_pow]
  by_cases h : 32 = i
  · subst h
    cases n.testBit 32
    · simp
    · rw [if_pos rfl, Nat.testBit_two_pow]; simp
  · cases n.testBit 32
    · simp [h]
    · rw [if_pos rfl, Nat.testBit_two_pow]; simp [h]
theorem iand_bit (n : Int) (h0 : 0 ≤ n) (h : n < 8589934592) : ibits .and n 4294967296 = if n < 4294967296 then 0 else 4294967296 := by
  rw [iand, show ((4294967296 : Int) % 18446744073709551616).toNat = 2 ^ 32 from rfl, nand_bit, Nat.testBit_eq_decide_div_mod_eq]
  have e : (n % 18446744073709551616).toNat = n.toNat := by omega
  rw [e]
  by_cases hn : n < 4294967296
  · have : n.toNat / 2 ^ 32 = 0 := Nat.div_eq_of_lt (by omega)
    rw [this, if_pos hn]; rfl
  · have : n.toNat / 2 ^ 32 = 1 := by omega
    rw [this, if_neg hn]; rfl
theorem ior_bit (n : Int) (h0 : 0 ≤ n) (h : n < 4294967296) : ibits .or n 4294967296 = n + 4294967296 := by
  have e : (n % 18446744073709551616).toNat = n.toNat := by omega
  rw [ior, show ((4294967296 : Int) % 18446744073709551616).toNat = 2 ^ 32 * 1 from rfl, e, Nat.or_comm, ← Nat.two_pow_add_eq_or_of_lt (by omega : n.toNat < 2 ^ 32) 1, i64_in' (by omega)]
  omega

theorem linkNext_mod (n : Int) : linkNext n = n % 4294967296 := by
  simp only [linkNext]
  rw [uand_low, u64_mod]
  omega
theorem putLink_val (a : Int) (g : Bool) (h0 : 0 ≤ a) (h : a < 4294967296) : putLink a g = if g then a + 4294967296 else a := by
  have e : i64 (band a 4294967295) = a := by
    simp only [band]
    rw [uand_low, i64_in' (by omega)]
    omega
  simp only [putLink, e]
  cases g
  · simp
  · simp only [if_true]; exact ior_bit a h0 h
theorem link_next (a : Int) (g : Bool) (h0 : 0 ≤ a) (h : a < 4294967296) : linkNext (putLink a g) = a := by
  rw [linkNext_mod, putLink_val a g h0 h]
  cases g <;> simp <;> omega
theorem link_gone (a : Int) (g : Bool) (h0 : 0 ≤ a) (h : a < 4294967296) : linkGone (putLink a g) = g := by
  rw [putLink_val a g h0 h]
  simp only [linkGone]
  cases g
  · simp only [Bool.false_eq_true, if_false]
    rw [iand_bit a h0 (by omega), if_pos h]; rfl
  · simp only [if_true]
    rw [iand_bit _ (by omega) (by omega), if_neg (by omega)]; rfl
theorem gone_val (n : Int) (h0 : 0 ≤ n) (h : n < 8589934592) : linkGone n = !decide (n < 4294967296) := by
  simp only [linkGone]
  rw [iand_bit n h0 h]
  by_cases hn : n < 4294967296
  · rw [if_pos hn]; simp [hn]
  · rw [if_neg hn]; simp [hn]
theorem put_link (n : Int) (h0 : 0 ≤ n) (h : n < 8589934592) : putLink (linkNext n) (linkGone n) = n := by
  rw [linkNext_mod, putLink_val _ _ (by omega) (by omega), gone_val n h0 h]
  by_cases hn : n < 4294967296
  · simp [hn]; omega
  · simp [hn]; omega
theorem put_le (a : Int) (g : Bool) (h0 : 0 ≤ a) (h : a < 4294967296) : ¬ (1099511627775 : Int) < putLink a g := by
  rw [putLink_val a g h0 h]
  cases g <;> simp <;> omega
/-- a number's lower 33 bits -/
theorem iand_33 (x : Int) : 0 ≤ ibits .and x 8589934591 ∧ ibits .and x 8589934591 < 8589934592 := by
  rw [iand, show ((8589934591 : Int) % 18446744073709551616).toNat = 2 ^ 33 - 1 from rfl, Nat.and_two_pow_sub_one_eq_mod, i64_in' (by omega)]
  omega
theorem link_next' (x : Int) (g : Bool) : linkNext (putLink (x % 4294967296) g) = x % 4294967296 := link_next _ g (by omega) (by omega)
theorem link_gone' (x : Int) (g : Bool) : linkGone (putLink (x % 4294967296) g) = g := link_gone _ g (by omega) (by omega)
theorem put_le' (x : Int) (g : Bool) : ltI 1099511627775 (putLink (x % 4294967296) g) = false := decide_eq_false (put_le _ g (by omega) (by omega))
theorem put_link' (x : Int) : putLink (linkNext (bitsInt .and .i64 x 8589934591)) (linkGone (bitsInt .and .i64 x 8589934591)) = bitsInt .and .i64 x 8589934591 :=
  put_link _ (iand_33 x).1 (iand_33 x).2
theorem put_le2 (x : Int) (g : Bool) : ¬ (1099511627775 : Int) < putLink (x % 4294967296) g := put_le _ g (by omega) (by omega)
end Go.Fl
