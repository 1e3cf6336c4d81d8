/- Words as numbers: what is packed comes out as it was laid. In plain Lean. -/
import Derived.Test.YtdkjpjiljplahaaGreatMl
namespace Go.Fl
open Go Go.Sx
set_option linter.unusedVariables false
set_option linter.unusedSimpArgs false
set_option linter.unusedSectionVars false

theorem uor (x y : Int) : bitsInt .or .u64 x y = u64 (((x % 18446744073709551616).toNat ||| (y % 18446744073709551616).toNat : Nat) : Int) := by
  show u64 ((BitVec.ofInt 64 x ||| BitVec.ofInt 64 y).toNat : Int) = _
  rw [BitVec.toNat_or, toNat_ofInt64, toNat_ofInt64]
/-- what is or-ed stands apart -/
theorem bor_add (k : Nat) {p : Int} (hp : p = ((2 ^ k : Nat) : Int)) {x b : Int} (hx : 0 ≤ x) (hk : x < p) (hb : 0 ≤ b) (hy : b * p + x < 18446744073709551616) : bor x (b * p) = x + b * p := by
  have hbp : 0 ≤ b * p := Int.mul_nonneg hb (by omega)
  have e : (b * p).toNat = 2 ^ k * b.toNat := by
    rw [hp, Int.mul_comm, Int.toNat_mul (by omega) hb]
    rfl
  have e1 : (x % 18446744073709551616).toNat = x.toNat := by omega
  have e2 : ((b * p) % 18446744073709551616).toNat = (b * p).toNat := by omega
  rw [bor, uor, e1, e2, e, Nat.or_comm, ← Nat.two_pow_add_eq_or_of_lt (by omega : x.toNat < 2 ^ k) b.toNat, ← e, u64_mod]
  omega
theorem band_low (k : Nat) {p x : Int} (hp : p + 1 = ((2 ^ k : Nat) : Int)) (h : p < 18446744073709551616) : band x p = (x % 18446744073709551616) % (p + 1) := by
  have h0 : 0 ≤ p := by
    have : 0 < 2 ^ k := Nat.two_pow_pos k
    omega
  have e : (p % 18446744073709551616).toNat = 2 ^ k - 1 := by omega
  rw [band, uand, e, Nat.and_two_pow_sub_one_eq_mod, u64_mod, hp]
  have h1 : ((x % 18446744073709551616).toNat % 2 ^ k : Nat) < 2 ^ k := Nat.mod_lt _ (Nat.two_pow_pos k)
  have h2 : (((x % 18446744073709551616).toNat % 2 ^ k : Nat) : Int) = (x % 18446744073709551616) % ((2 ^ k : Nat) : Int) := by
    rw [Int.natCast_emod]
    congr 1
    omega
  rw [h2]
  have h3 : 0 ≤ (x % 18446744073709551616) % ((2 ^ k : Nat) : Int) := Int.emod_nonneg _ (by omega)
  have h4 : (x % 18446744073709551616) % ((2 ^ k : Nat) : Int) < ((2 ^ k : Nat) : Int) := Int.emod_lt_of_pos _ (by omega)
  omega
theorem shr_div (k : Int) (x : Int) (p : Int) (hp : (2 : Int) ^ (min k.toNat 64) = p) (h : 0 ≤ p) : shr x k = x / p := by
  show x.fdiv (2 ^ (min k.toNat 64)) = _
  rw [hp, Int.fdiv_eq_ediv_of_nonneg _ h]
theorem shl_mul (k : Int) (x : Int) (p : Int) (hp : (2 : Int) ^ (min k.toNat 64) = p) (h0 : 0 ≤ x * p) (h : x * p < 18446744073709551616) : shl x k = x * p := by
  show u64 (x * 2 ^ (min k.toNat 64)) = _
  rw [hp, u64_mod]
  omega
theorem fit_range (n : Int) {q : Int} (h : 0 ≤ q) (h' : q < 18446744073709551616) : 0 ≤ fit n q ∧ fit n q ≤ q := by
  simp only [fit, u64_mod, mn, mx]
  split <;> split <;> omega
theorem fit_in {n q : Int} (h : 0 ≤ n) (h1 : n ≤ q) (h' : q < 18446744073709551616) : fit n q = n := by
  simp only [fit, u64_mod, mn, mx]
  split <;> split <;> omega

/-! ### a slot's word -/
theorem putSlot_val (s a g v : Int) : putSlot s a g v = fit s 7 + fit a 1048575 * 8 + fit g 65535 * 8388608 + fit v 4194303 * 549755813888 := by
  have h1 := fit_range s (q := 7) (by decide) (by decide)
  have h2 := fit_range a (q := 1048575) (by decide) (by decide)
  have h3 := fit_range g (q := 65535) (by decide) (by decide)
  have h4 := fit_range v (q := 4194303) (by decide) (by decide)
  unfold putSlot
  generalize fit s 7 = s at *
  generalize fit a 1048575 = a at *
  generalize fit g 65535 = g at *
  generalize fit v 4194303 = v at *
  rw [shl_mul 3 a 8 (by decide) (by omega) (by omega), shl_mul 23 g 8388608 (by decide) (by omega) (by omega), shl_mul 39 v 549755813888 (by decide) (by omega) (by omega)]
  have e0 : bor (s) (a * 8) = s + a * 8 := bor_add 3 (by decide) (by omega) (by omega) (by omega) (by omega)
  have e1 : bor (s + a * 8) (g * 8388608) = s + a * 8 + g * 8388608 := bor_add 23 (by decide) (by omega) (by omega) (by omega) (by omega)
  have e2 : bor (s + a * 8 + g * 8388608) (v * 549755813888) = s + a * 8 + g * 8388608 + v * 549755813888 := bor_add 39 (by decide) (by omega) (by omega) (by omega) (by omega)
  rw [e0, e1, e2]
theorem slot_dec (w : Int) (h : 0 ≤ w) (h' : w < 18446744073709551616) : slotState w = w % 8 ∧ slotAddr w = w / 8 % 1048576 ∧ slotGen w = w / 8388608 % 65536 ∧ slotVer w = w / 549755813888 % 4194304 := by
  simp only [slotState, slotAddr, slotGen, slotVer]
  rw [shr_div 3 w 8 (by decide) (by decide), shr_div 23 w 8388608 (by decide) (by decide), shr_div 39 w 549755813888 (by decide) (by decide),
    band_low 3 (by decide) (by decide), band_low 20 (by decide) (by decide), band_low 16 (by decide) (by decide), band_low 22 (by decide) (by decide)]
  rw [i64_in' (by omega), i64_in' (by omega), i64_in' (by omega), i64_in' (by omega)]
  omega
theorem slot_of (s a g v : Int) : slotState (putSlot s a g v) = fit s 7 ∧ slotAddr (putSlot s a g v) = fit a 1048575 ∧ slotGen (putSlot s a g v) = fit g 65535 := by
  have h1 := fit_range s (q := 7) (by decide) (by decide)
  have h2 := fit_range a (q := 1048575) (by decide) (by decide)
  have h3 := fit_range g (q := 65535) (by decide) (by decide)
  have h4 := fit_range v (q := 4194303) (by decide) (by decide)
  rw [putSlot_val]
  generalize fit s 7 = s at *
  generalize fit a 1048575 = a at *
  generalize fit g 65535 = g at *
  generalize fit v 4194303 = v at *
  obtain ⟨e1, e2, e3, _⟩ := slot_dec (s + a * 8 + g * 8388608 + v * 549755813888) (by omega) (by omega)
  rw [e1, e2, e3]
  omega

/-! ### a chunk's word -/
theorem putChunk_val (s k u t : Int) : putChunk s k u t = fit s 3 + fit k 63 * 4 + fit u 1048575 * 256 + fit t 68719476735 * 268435456 := by
  have h1 := fit_range s (q := 3) (by decide) (by decide)
  have h2 := fit_range k (q := 63) (by decide) (by decide)
  have h3 := fit_range u (q := 1048575) (by decide) (by decide)
  have h4 := fit_range t (q := 68719476735) (by decide) (by decide)
  unfold putChunk
  generalize fit s 3 = s at *
  generalize fit k 63 = k at *
  generalize fit u 1048575 = u at *
  generalize fit t 68719476735 = t at *
  rw [shl_mul 2 k 4 (by decide) (by omega) (by omega), shl_mul 8 u 256 (by decide) (by omega) (by omega), shl_mul 28 t 268435456 (by decide) (by omega) (by omega)]
  have e0 : bor (s) (k * 4) = s + k * 4 := bor_add 2 (by decide) (by omega) (by omega) (by omega) (by omega)
  have e1 : bor (s + k * 4) (u * 256) = s + k * 4 + u * 256 := bor_add 8 (by decide) (by omega) (by omega) (by omega) (by omega)
  have e2 : bor (s + k * 4 + u * 256) (t * 268435456) = s + k * 4 + u * 256 + t * 268435456 := bor_add 28 (by decide) (by omega) (by omega) (by omega) (by omega)
  rw [e0, e1, e2]
theorem chunk_dec (w : Int) (h : 0 ≤ w) (h' : w < 18446744073709551616) : chunkState w = w % 4 ∧ chunkClass w = w / 4 % 64 ∧ chunkUsed w = w / 256 % 1048576 := by
  simp only [chunkState, chunkClass, chunkUsed]
  rw [shr_div 2 w 4 (by decide) (by decide), shr_div 8 w 256 (by decide) (by decide),
    band_low 2 (by decide) (by decide), band_low 6 (by decide) (by decide), band_low 20 (by decide) (by decide)]
  rw [i64_in' (by omega), i64_in' (by omega), i64_in' (by omega)]
  omega
theorem chunk_of (s k u t : Int) : chunkState (putChunk s k u t) = fit s 3 ∧ chunkClass (putChunk s k u t) = fit k 63 ∧ chunkUsed (putChunk s k u t) = fit u 1048575 := by
  have h1 := fit_range s (q := 3) (by decide) (by decide)
  have h2 := fit_range k (q := 63) (by decide) (by decide)
  have h3 := fit_range u (q := 1048575) (by decide) (by decide)
  have h4 := fit_range t (q := 68719476735) (by decide) (by decide)
  rw [putChunk_val]
  generalize fit s 3 = s at *
  generalize fit k 63 = k at *
  generalize fit u 1048575 = u at *
  generalize fit t 68719476735 = t at *
  obtain ⟨e1, e2, e3⟩ := chunk_dec (s + k * 4 + u * 256 + t * 268435456) (by omega) (by omega)
  rw [e1, e2, e3]
  omega
theorem chunk_range (w : Int) : 0 ≤ chunkUsed w ∧ chunkUsed w < 1048576 := by
  simp only [chunkUsed]
  rw [band_low 20 (by decide) (by decide), i64_in' (by omega)]
  omega

/-! ### an object's head -/
theorem putHead_val (k s l g : Int) (own : Bool) : putHead k s l g own = fit k 3 + fit s 65535 * 4 + fit l 65535 * 262144 + fit g 65535 * 17179869184 + (if own then 1 else 0) * 1125899906842624 := by
  have h1 := fit_range k (q := 3) (by decide) (by decide)
  have h2 := fit_range s (q := 65535) (by decide) (by decide)
  have h3 := fit_range l (q := 65535) (by decide) (by decide)
  have h4 := fit_range g (q := 65535) (by decide) (by decide)
  unfold putHead putHead0 ownBit
  generalize fit k 3 = k at *
  generalize fit s 65535 = s at *
  generalize fit l 65535 = l at *
  generalize fit g 65535 = g at *
  rw [shl_mul 2 s 4 (by decide) (by omega) (by omega), shl_mul 18 l 262144 (by decide) (by omega) (by omega), shl_mul 34 g 17179869184 (by decide) (by omega) (by omega)]
  have e0 : bor (k) (s * 4) = k + s * 4 := bor_add 2 (by decide) (by omega) (by omega) (by omega) (by omega)
  have e1 : bor (k + s * 4) (l * 262144) = k + s * 4 + l * 262144 := bor_add 18 (by decide) (by omega) (by omega) (by omega) (by omega)
  have e2 : bor (k + s * 4 + l * 262144) (g * 17179869184) = k + s * 4 + l * 262144 + g * 17179869184 := bor_add 34 (by decide) (by omega) (by omega) (by omega) (by omega)
  rw [e0, e1, e2]
  cases own
  · simp
  · have := bor_add 50 (p := 1125899906842624) (by decide) (x := k + s * 4 + l * 262144 + g * 17179869184) (b := 1) (by omega) (by omega) (by omega) (by omega)
    simpa using this
theorem head_of (k s l g : Int) (own : Bool) : headSize (putHead k s l g own) = fit s 65535 ∧ headOwn (putHead k s l g own) = own := by
  have h1 := fit_range k (q := 3) (by decide) (by decide)
  have h2 := fit_range s (q := 65535) (by decide) (by decide)
  have h3 := fit_range l (q := 65535) (by decide) (by decide)
  have h4 := fit_range g (q := 65535) (by decide) (by decide)
  rw [putHead_val]
  generalize fit k 3 = k at *
  generalize fit s 65535 = s at *
  generalize fit l 65535 = l at *
  generalize fit g 65535 = g at *
  simp only [headSize, headOwn]
  cases own
  all_goals
    simp only [Bool.false_eq_true, if_true, if_false]
    rw [shr_div 2 _ 4 (by decide) (by decide), shr_div 50 _ 1125899906842624 (by decide) (by decide), band_low 16 (by decide) (by decide), band_low 1 (by decide) (by decide), i64_in' (by omega)]
    refine ⟨by omega, ?_⟩
    first | (rw [beq_eq_false_iff_ne]; omega) | (rw [beq_iff_eq]; omega)

/-! ### a word of an object -/
theorem cell_of {v : Int} (h : 0 ≤ v) (h' : v ≤ 1099511627775) : cellFrozen (putCell v false 0) = false ∧ cellValue (putCell v false 0) = v := by
  simp only [putCell, Bool.false_eq_true, if_false, fit_in h h' (by decide), cellFrozen, cellValue]
  rw [shr_div 63 v 9223372036854775808 (by decide) (by decide), band_low 40 (by decide) (by decide), i64_in' (by omega)]
  refine ⟨by rw [beq_eq_false_iff_ne]; omega, by omega⟩
theorem cell_zero : cellFrozen 0 = false ∧ cellValue 0 = 0 := ⟨by decide, by decide⟩

/-! ### the stack of free slots -/
theorem putTop_val (s n : Int) : putTop s n = fit (i64 (mn s 65535 + 1)) 65536 + fit n 68719476735 * 131072 := by
  have h1 := fit_range (i64 (mn s 65535 + 1)) (q := 65536) (by decide) (by decide)
  have h2 := fit_range n (q := 68719476735) (by decide) (by decide)
  unfold putTop
  generalize fit (i64 (mn s 65535 + 1)) 65536 = s at *
  generalize fit n 68719476735 = n at *
  rw [shl_mul 17 n 131072 (by decide) (by omega) (by omega), bor_add 17 (by decide) (by omega) (by omega) (by omega) (by omega)]
theorem top_of {s : Int} (n : Int) (h : -1 ≤ s) (h' : s ≤ 65535) : topSlot (putTop s n) = s := by
  have h2 := fit_range n (q := 68719476735) (by decide) (by decide)
  have e : fit (i64 (mn s 65535 + 1)) 65536 = s + 1 := by
    have : mn s 65535 = s := by simp only [mn]; split <;> omega
    rw [this, i64_in' (by omega), fit_in (by omega) (by omega) (by decide)]
  rw [putTop_val, e]
  generalize fit n 68719476735 = n at *
  simp only [topSlot]
  rw [band_low 17 (by decide) (by decide), i64_in' (n := _ % _ % _) (by omega), i64_in' (by omega)]
  omega

/-! ### a handle -/
theorem putHandle_val {s g : Int} (hs : 0 ≤ s) (hs' : s ≤ 65535) (hg : 0 ≤ g) (hg' : g ≤ 65535) : putHandle s g = s + g * 65536 := by
  unfold putHandle
  rw [fit_in hs hs' (by decide), fit_in hg hg' (by decide), shl_mul 16 g 65536 (by decide) (by omega) (by omega), bor_add 16 (by decide) (by omega) (by omega) (by omega) (by omega)]
theorem handle_of {s g : Int} (hs : 0 ≤ s) (hs' : s ≤ 65535) (hg : 1 ≤ g) (hg' : g ≤ 65535) :
    handleOk (s + g * 65536) = true ∧ handleSlot (s + g * 65536) = s ∧ handleGen (s + g * 65536) = g := by
  have e : handleOk (s + g * 65536) = true := by
    simp only [handleOk, shr_div 32 _ 4294967296 (by decide) (by decide), shr_div 16 _ 65536 (by decide) (by decide), Bool.and_eq_true, beq_iff_eq, Bool.not_eq_true', beq_eq_false_iff_ne, ne_eq]
    omega
  refine ⟨e, ?_, ?_⟩
  · simp only [handleSlot, e, if_true, band_low 16 (p := 65535) (by decide) (by decide)]
    rw [i64_in' (by omega)]
    omega
  · simp only [handleGen, e, if_true, shr_div 16 _ 65536 (by decide) (by decide)]
    rw [i64_in' (by omega)]
    omega
end Go.Fl

/- An arena at rest, as plain data: which objects live, which slots are free; what its words have then. In plain Lean. -/
namespace Go.Fl
open Go Go.Sx
set_option linter.unusedVariables false
set_option linter.unusedSimpArgs false
set_option linter.unusedSectionVars false

namespace Mem
def len (m : Mem) : Int := m.w.length
theorem okA_iff {m : Mem} {a : Int} : m.okA a = true ↔ 0 ≤ a ∧ a < m.len := by
  simp only [okA, len, Bool.and_eq_true, Bool.not_eq_true', decide_eq_false_iff_not, decide_eq_true_eq]
  omega
theorem okA_by (m : Mem) (who a : Int) : (m.by' who).okA a = m.okA a := rfl
theorem w_set (m : Mem) (a x : Int) : (m.set a x).w = m.w.set a.toNat x := by unfold set; split <;> rfl
theorem w_load (m : Mem) (who a : Int) : (m.load who a).w = m.w := by unfold load; split <;> rfl
theorem len_set (m : Mem) (a x : Int) : (m.set a x).len = m.len := by simp only [len, w_set, List.length_set]
theorem len_load (m : Mem) (who a : Int) : (m.load who a).len = m.len := by simp only [len, w_load]
theorem len_store (m : Mem) (who a x : Int) : (m.store who a x).len = m.len := by unfold store; split <;> first | exact len_set .. | exact rfl
theorem len_cas (m : Mem) (who a o x : Int) : (m.cas who a o x).len = m.len := by
  unfold cas; split
  · split <;> first | exact len_set .. | rfl
  · rfl
theorem len_add (m : Mem) (who a x : Int) : (m.add who a x).len = m.len := by unfold add; split <;> first | exact len_set .. | exact rfl
theorem okA_of {m m' : Mem} (h : m'.len = m.len) (a : Int) : m'.okA a = m.okA a := by
  rw [Bool.eq_iff_iff, okA_iff, okA_iff, h]
theorem val_load (m : Mem) (who a b : Int) : (m.load who a).val b = m.val b := by
  have e : (m.load who a).okA b = m.okA b := okA_of (len_load ..) b
  simp only [val, e, at', w_load]
theorem val_set {m : Mem} {a : Int} (h : m.okA a = true) (x b : Int) : (m.set a x).val b = if b = a then x else m.val b := by
  have e : (m.set a x).okA b = m.okA b := okA_of (len_set ..) b
  have h' := okA_iff.1 h
  simp only [len] at h'
  simp only [val, e, at', w_set]
  by_cases hb : b = a
  · subst hb
    rw [if_pos h, if_pos rfl, List.getD_eq_getElem?_getD, List.getElem?_set_self (by omega)]; rfl
  · rw [if_neg hb]
    by_cases hbo : m.okA b = true
    · rw [if_pos hbo, if_pos hbo]
      have h2 := okA_iff.1 hbo
      rw [List.getD_eq_getElem?_getD, List.getD_eq_getElem?_getD, List.getElem?_set_ne (by omega)]
    · rw [if_neg hbo, if_neg hbo]
theorem val_step (m : Mem) (who a b : Int) : ((m.by' who).step a).val b = m.val b := rfl
theorem val_store {m : Mem} {a : Int} (h : m.okA a = true) (who x b : Int) : (m.store who a x).val b = if b = a then x else m.val b := by
  unfold store
  rw [okA_by, if_pos h, val_set (show ((m.by' who).step a).okA a = true from h), val_step]
theorem casOk_eq {m : Mem} {a : Int} (h : m.okA a = true) (o : Int) : m.casOk a o = (m.val a == o) := by
  simp only [casOk, h, val, Bool.true_and, if_true]
theorem val_cas {m : Mem} {a : Int} (h : m.okA a = true) {o : Int} (ho : m.val a = o) (who x b : Int) : (m.cas who a o x).val b = if b = a then x else m.val b := by
  have h1 : m.at' a = o := by rw [← ho]; simp only [val, h, if_true]
  unfold cas
  rw [okA_by, if_pos h, if_pos (by rw [h1]; exact beq_self_eq_true o), val_set (show ((m.by' who).step a).okA a = true from h), val_step]
theorem val_add {m : Mem} {a : Int} (h : m.okA a = true) (who d b : Int) : (m.add who a d).val b = if b = a then u64 (m.val a + u64 d) else m.val b := by
  have h1 : m.val a = m.at' a := by simp only [val, h, if_true]
  unfold add
  rw [okA_by, if_pos h, val_set (show ((m.by' who).step a).okA a = true from h), val_step, h1]
/-- the same words -/
def Eqv (m m' : Mem) : Prop := m'.len = m.len ∧ ∀ b, m'.val b = m.val b
theorem Eqv.refl (m : Mem) : Eqv m m := ⟨rfl, fun _ => rfl⟩
theorem Eqv.trans {a b c : Mem} (h : Eqv a b) (k : Eqv b c) : Eqv a c := ⟨k.1.trans h.1, fun x => (k.2 x).trans (h.2 x)⟩
theorem eqv_load (m : Mem) (who a : Int) : Eqv m (m.load who a) := ⟨len_load .., val_load m who a⟩
/-- how far the clock goes in a step -/
def Tick (m m' : Mem) : Prop := m'.steps = m.steps ∨ m'.steps = i64 (m.steps + 1)
theorem tick_refl (m : Mem) : Tick m m := .inl rfl
theorem tick_set (m : Mem) (a x : Int) : (m.set a x).steps = m.steps := by unfold set; split <;> rfl
theorem la_set (m : Mem) (a x : Int) : (m.set a x).la = m.la := by unfold set; split <;> rfl
theorem tick_load (m : Mem) (who a : Int) : Tick m (m.load who a) := by unfold load; split <;> first | exact .inr rfl | exact .inl rfl
theorem tick_store (m : Mem) (who a x : Int) : Tick m (m.store who a x) := by unfold store; split <;> first | exact .inr (tick_set ..) | exact .inl rfl
theorem tick_add (m : Mem) (who a x : Int) : Tick m (m.add who a x) := by unfold add; split <;> first | exact .inr (tick_set ..) | exact .inl rfl
theorem tick_cas (m : Mem) (who a o x : Int) : Tick m (m.cas who a o x) := by
  unfold cas; split
  · split <;> first | exact .inr (tick_set ..) | exact .inr rfl
  · exact .inl rfl
end Mem

/-! ### step by step -/
/-- so many steps, none of which is the last -/
inductive Go {α : Type} (f : α → Mem → α × Mem × Bool) (Q : Mem → Mem → Prop) : Nat → α → Mem → α → Mem → Prop
  | refl (a : α) (m : Mem) : Go f Q 0 a m a m
  | step {n : Nat} {a a1 a' : α} {m m1 m' : Mem} (h : f a m = (a1, m1, false)) (q : Q m m1) (r : Go f Q n a1 m1 a' m') : Go f Q (n + 1) a m a' m'
/-- the last step behind so many -/
def Ends {α : Type} (f : α → Mem → α × Mem × Bool) (Q : Mem → Mem → Prop) (n : Nat) (a : α) (m : Mem) (a' : α) (m' : Mem) : Prop :=
  ∃ a1 m1, Go f Q n a m a1 m1 ∧ f a1 m1 = (a', m', true) ∧ Q m1 m'
section
variable {α β : Type} {f : α → Mem → α × Mem × Bool} {g : β → Mem → β × Mem × Bool} {Q Q' : Mem → Mem → Prop} {n k : Nat} {a a1 a' : α} {m m1 m' : Mem}
theorem Go.one (h : f a m = (a1, m1, false)) (q : Q m m1) : Go f Q 1 a m a1 m1 := .step h q (.refl _ _)
theorem Go.trans (h : Go f Q n a m a1 m1) (r : Go f Q k a1 m1 a' m') : Go f Q (n + k) a m a' m' := by
  induction h with
  | refl => rw [Nat.zero_add]; exact r
  | step h q _ ih => rw [Nat.add_right_comm]; exact .step h q (ih r)
theorem Go.ends (h : Go f Q n a m a1 m1) (r : Ends f Q k a1 m1 a' m') : Ends f Q (n + k) a m a' m' := by
  obtain ⟨x, y, h1, h2⟩ := r
  exact ⟨x, y, h.trans h1, h2⟩
theorem Ends.one (h : f a m = (a', m', true)) (q : Q m m') : Ends f Q 0 a m a' m' := ⟨a, m, .refl _ _, h, q⟩
theorem Ends.step (h : f a m = (a1, m1, false)) (q : Q m m1) (r : Ends f Q n a1 m1 a' m') : Ends f Q (n + 1) a m a' m' := by
  obtain ⟨x, y, h1, h2⟩ := r
  exact ⟨x, y, .step h q h1, h2⟩
/-- inside a greater machine -/
theorem Go.map (φ : α → β) (hφ : ∀ a m a' m', f a m = (a', m', false) → g (φ a) m = (φ a', m', false)) (h : Go f Q n a m a' m') : Go g Q n (φ a) m (φ a') m' := by
  induction h with
  | refl => exact .refl _ _
  | step h q _ ih => exact .step (hφ _ _ _ _ h) q ih
theorem Go.keep {I : Mem → Prop} (hI : ∀ m m', I m → Q m m' → I m' ∧ Q' m m') (h : Go f Q n a m a' m') (h0 : I m) : I m' ∧ Go f Q' n a m a' m' := by
  induction h with
  | refl => exact ⟨h0, .refl _ _⟩
  | step h q _ ih =>
    obtain ⟨h1, h2⟩ := hI _ _ h0 q
    obtain ⟨h3, h4⟩ := ih h1
    exact ⟨h3, .step h h2 h4⟩
theorem Ends.keep {I : Mem → Prop} (hI : ∀ m m', I m → Q m m' → I m' ∧ Q' m m') (h : Ends f Q n a m a' m') (h0 : I m) : I m' ∧ Ends f Q' n a m a' m' := by
  obtain ⟨x, y, h1, h2, h3⟩ := h
  obtain ⟨h4, h5⟩ := h1.keep hI h0
  obtain ⟨h6, h7⟩ := hI _ _ h4 h3
  exact ⟨h6, x, y, h5, h2, h7⟩
end

/-! ### places -/
/-- an arena that may be -/
structure CfgOK (c : Cfg) : Prop where
  t0 : 1 ≤ c.threads
  t1 : c.threads ≤ 8
  s0 : 1 ≤ c.slots
  s1 : c.slots ≤ 65536
  k0 : 1 ≤ c.chunks
  k1 : c.chunks ≤ 64
  w0 : 17 ≤ c.words
  w1 : c.words ≤ 256
  g0 : 1 ≤ c.gens
  g1 : c.gens ≤ 65535
/-- where the first chunk's words begin -/
def dat (c : Cfg) : Int := 6 + c.threads + 2 * c.slots + 3 * c.chunks
namespace CfgOK
variable {c : Cfg} (hc : CfgOK c)
include hc
theorem prod {i : Int} (h0 : 0 ≤ i) (h : i ≤ c.chunks) : 0 ≤ c.words * i ∧ c.words * i ≤ c.words * c.chunks ∧ c.words * c.chunks ≤ 16384 := by
  have h1 := hc.w0; have h2 := hc.w1; have h3 := hc.k1; have h4 := hc.k0
  refine ⟨Int.mul_nonneg (by omega) h0, Int.mul_le_mul_of_nonneg_left h (by omega), ?_⟩
  have : c.words * c.chunks ≤ 256 * 64 := Int.mul_le_mul h2 h3 (by omega) (by omega)
  omega
theorem prod1 {i j : Int} (h : i < j) : c.words * i + c.words ≤ c.words * j := by
  have h1 := hc.w0
  have : c.words * (i + 1) ≤ c.words * j := Int.mul_le_mul_of_nonneg_left (by omega) (by omega)
  rw [Int.mul_add, Int.mul_one] at this
  exact this
theorem slot {i : Int} (h0 : 0 ≤ i) (h : i ≤ c.slots) : slotAt c i = 6 + c.threads + 2 * i := by
  have h1 := hc.t0; have h2 := hc.t1; have h3 := hc.s1
  simp only [slotAt]
  rw [i64_in' (n := 6 + c.threads) (by omega), i64_in' (n := 2 * i) (by omega), i64_in' (by omega)]
theorem slot' {i : Int} (h0 : 0 ≤ i) (h : i ≤ c.slots) : i64 (slotAt c i + 1) = 6 + c.threads + 2 * i + 1 := by
  have h1 := hc.t0; have h2 := hc.t1; have h3 := hc.s1
  rw [hc.slot h0 h, i64_in' (by omega)]
theorem chunk {i : Int} (h0 : 0 ≤ i) (h : i ≤ c.chunks) : chunkAt c i = 6 + c.threads + 2 * c.slots + 3 * i := by
  have h1 := hc.t0; have h2 := hc.t1; have h3 := hc.s1; have h4 := hc.k1; have h5 := hc.s0
  simp only [chunkAt]
  rw [i64_in' (n := 6 + c.threads) (by omega), i64_in' (n := 2 * c.slots) (by omega), i64_in' (n := 3 * i) (by omega), i64_in' (n := 6 + c.threads + 2 * c.slots) (by omega), i64_in' (by omega)]
theorem chunk' {i : Int} (h0 : 0 ≤ i) (h : i ≤ c.chunks) : i64 (chunkAt c i + 1) = 6 + c.threads + 2 * c.slots + 3 * i + 1 := by
  have h1 := hc.t0; have h2 := hc.t1; have h3 := hc.s1; have h4 := hc.k1; have h5 := hc.s0
  rw [hc.chunk h0 h, i64_in' (by omega)]
theorem base {i : Int} (h0 : 0 ≤ i) (h : i ≤ c.chunks) : baseAt c i = dat c + c.words * i := by
  have h1 := hc.t0; have h2 := hc.t1; have h3 := hc.s1; have h4 := hc.k1; have h5 := hc.s0; have h6 := hc.k0
  obtain ⟨p1, p2, p3⟩ := hc.prod h0 h
  simp only [baseAt, dat]
  rw [i64_in' (n := 6 + c.threads) (by omega), i64_in' (n := 2 * c.slots) (by omega), i64_in' (n := 3 * c.chunks) (by omega), i64_in' (n := c.words * i) (by omega),
    i64_in' (n := 6 + c.threads + 2 * c.slots) (by omega), i64_in' (n := 6 + c.threads + 2 * c.slots + 3 * c.chunks) (by omega), i64_in' (by omega)]
theorem len : lenOf c = dat c + c.words * c.chunks := hc.base (by have := hc.k0; omega) (Int.le_refl _)
theorem dat_lt : dat c + c.words * c.chunks < 1048576 := by
  have h1 := hc.t0; have h2 := hc.t1; have h3 := hc.s1; have h4 := hc.k1; have h5 := hc.s0; have h6 := hc.k0
  obtain ⟨p1, p2, p3⟩ := hc.prod (i := c.chunks) (by omega) (Int.le_refl _)
  simp only [dat]; omega
theorem pin {t : Int} (h0 : 0 ≤ t) (h : t < c.threads) : pinAt t = 6 + t := by
  have h2 := hc.t1
  simp only [pinAt]; rw [i64_in' (by omega)]
omit hc in
theorem opn {k : Int} (h0 : 0 ≤ k) (h : k < 4) : openAt k = 2 + k := by
  simp only [openAt]; rw [i64_in' (by omega)]
end CfgOK
theorem class_cases (n : Int) : (classOf n = -1 ∧ (n < 1 ∨ 16 < n)) ∨ (0 ≤ classOf n ∧ classOf n ≤ 3 ∧ 1 ≤ n ∧ n ≤ 16 ∧ n + 1 ≤ roomOf (classOf n) ∧ roomOf (classOf n) ≤ 17) := by
  unfold classOf
  split
  · left; omega
  · split
    · right; rw [show roomOf 0 = 3 from by decide]; omega
    · split
      · right; rw [show roomOf 1 = 5 from by decide]; omega
      · split
        · right; rw [show roomOf 2 = 9 from by decide]; omega
        · split
          · right; rw [show roomOf 3 = 17 from by decide]; omega
          · left; omega
theorem room_le {k : Int} (h : 0 ≤ k) (h' : k ≤ 3) : 3 ≤ roomOf k ∧ roomOf k ≤ 17 := by
  have : k = 0 ∨ k = 1 ∨ k = 2 ∨ k = 3 := by omega
  rcases this with rfl | rfl | rfl | rfl <;> decide

/-! ### an arena at rest -/
structure Ob where
  ad : Int
  own : Bool
  gen : Int
  vs : List Int
def Ob.size (o : Ob) : Int := o.vs.length
def Ob.room (o : Ob) : Int := roomOf (classOf o.size)
structure Ab where
  /-- the free slots, as they lie -/
  fs : List Int
  /-- who lives at a slot -/
  ob : Int → Option Ob
  /-- a chunk that is not free: its class, how many of its words are given out -/
  ck : Int → Option (Int × Int)
  /-- the open one of a class, and 1; 0: there is none -/
  op : Int → Int
  /-- no slot is used more often -/
  gb : Int
def hdI : List Int → Int
  | [] => -1
  | s :: _ => s
def Chain (c : Cfg) (m : Mem) : List Int → Prop
  | [] => True
  | s :: r => topSlot (m.val (6 + c.threads + 2 * s + 1)) = hdI r ∧ Chain c m r
structure ObOK (c : Cfg) (A : Ab) (m : Mem) (s : Int) (o : Ob) : Prop where
  s0 : 0 ≤ s
  s1 : s < c.slots
  st : slotState (m.val (6 + c.threads + 2 * s)) = 1
  ad : slotAddr (m.val (6 + c.threads + 2 * s)) = o.ad
  gn : slotGen (m.val (6 + c.threads + 2 * s)) = o.gen
  g0 : 1 ≤ o.gen
  g1 : o.gen ≤ c.gens
  hs : headSize (m.val o.ad) = o.size
  ho : headOwn (m.val o.ad) = o.own
  cl : 0 ≤ classOf o.size
  cells : ∀ (i : Nat) v, o.vs[i]? = some v → cellFrozen (m.val (o.ad + 1 + i)) = false ∧ cellValue (m.val (o.ad + 1 + i)) = v
  at' : ∃ i k u, 0 ≤ i ∧ i < c.chunks ∧ A.ck i = some (k, u) ∧ dat c + c.words * i ≤ o.ad ∧ o.ad + o.room ≤ dat c + c.words * i + u
/-- how much of a chunk is given out -/
def usedOf : Option (Int × Int) → Int
  | none => 0
  | some (_, u) => u
def CkOK (c : Cfg) (m : Mem) (i : Int) : Option (Int × Int) → Prop
  | none => chunkState (m.val (6 + c.threads + 2 * c.slots + 3 * i)) = 0 ∧ ∀ x, dat c + c.words * i ≤ x → x < dat c + c.words * i + c.words → m.val x = 0
  | some (k, u) => (chunkState (m.val (6 + c.threads + 2 * c.slots + 3 * i)) = 1 ∧ chunkClass (m.val (6 + c.threads + 2 * c.slots + 3 * i)) = k ∧ chunkUsed (m.val (6 + c.threads + 2 * c.slots + 3 * i)) = u) ∧
      (0 ≤ k ∧ k ≤ 3 ∧ 0 ≤ u ∧ u ≤ c.words) ∧ ∀ x, dat c + c.words * i + u ≤ x → x < dat c + c.words * i + c.words → m.val x = 0
structure WF (c : Cfg) (A : Ab) (m : Mem) : Prop where
  len : m.len = dat c + c.words * c.chunks
  fs : ∀ s ∈ A.fs, (0 ≤ s ∧ s < c.slots) ∧ A.ob s = none ∧ 1 ≤ slotGen (m.val (6 + c.threads + 2 * s)) ∧ slotGen (m.val (6 + c.threads + 2 * s)) ≤ c.gens
  nd : A.fs.Nodup
  top : topSlot (m.val 1) = hdI A.fs
  ch : Chain c m A.fs
  dead : ∀ s, 0 ≤ s → s < c.slots → A.ob s = none → slotState (m.val (6 + c.threads + 2 * s)) = 0 ∨ slotState (m.val (6 + c.threads + 2 * s)) = 3
  obs : ∀ s o, A.ob s = some o → ObOK c A m s o
  apart : ∀ s s' o o', A.ob s = some o → A.ob s' = some o' → s ≠ s' → o.ad + o.room ≤ o'.ad ∨ o'.ad + o'.room ≤ o.ad
  cks : ∀ i, 0 ≤ i → i < c.chunks → CkOK c m i (A.ck i)
  op : ∀ k, 0 ≤ k → k ≤ 3 → m.val (2 + k) = A.op k ∧ 0 ≤ A.op k ∧ A.op k ≤ c.chunks
  gb : ∀ s, 0 ≤ s → s < c.slots → slotGen (m.val (6 + c.threads + 2 * s)) ≤ A.gb

section
variable {c : Cfg} {A A' : Ab} {m m' : Mem}
theorem Chain.keep : ∀ {l : List Int}, (∀ s ∈ l, m'.val (6 + c.threads + 2 * s + 1) = m.val (6 + c.threads + 2 * s + 1)) → Chain c m l → Chain c m' l
  | [], _, _ => trivial
  | s :: r, h, k => ⟨by rw [h s (List.mem_cons_self ..)]; exact k.1, Chain.keep (fun x hx => h x (List.mem_cons_of_mem _ hx)) k.2⟩
theorem Ob.room_size {o : Ob} (h : 0 ≤ classOf o.size) : o.size + 1 ≤ o.room ∧ o.room ≤ 17 ∧ 1 ≤ o.size ∧ o.size ≤ 16 := by
  rcases class_cases o.size with h1 | h1
  · omega
  · simp only [Ob.room]; omega
theorem ObOK.keep {s : Int} {o : Ob} (h : ObOK c A m s o) (h1 : m'.val (6 + c.threads + 2 * s) = m.val (6 + c.threads + 2 * s)) (h2 : ∀ x, o.ad ≤ x → x < o.ad + o.room → m'.val x = m.val x)
    (h3 : ∀ i k u, A.ck i = some (k, u) → ∃ u', u ≤ u' ∧ A'.ck i = some (k, u')) : ObOK c A' m' s o := by
  obtain ⟨r1, r2, r3, r4⟩ := Ob.room_size h.cl
  have hh : m'.val o.ad = m.val o.ad := h2 _ (by omega) (by omega)
  refine ⟨h.s0, h.s1, by rw [h1]; exact h.st, by rw [h1]; exact h.ad, by rw [h1]; exact h.gn, h.g0, h.g1, by rw [hh]; exact h.hs, by rw [hh]; exact h.ho, h.cl, fun i v hv => ?_, ?_⟩
  · have hi : i < o.vs.length := by
      rcases Nat.lt_or_ge i o.vs.length with h | h
      · exact h
      · rw [List.getElem?_eq_none h] at hv; cases hv
    rw [h2 _ (by omega) (by simp only [Ob.size] at r1; omega)]
    exact h.cells i v hv
  · obtain ⟨i, k, u, e1, e2, e3, e4, e5⟩ := h.at'
    obtain ⟨u', e6, e7⟩ := h3 i k u e3
    exact ⟨i, k, u', e1, e2, e7, e4, by omega⟩
theorem used0 {i : Int} : ∀ {x : Option (Int × Int)}, CkOK c m i x → 0 ≤ usedOf x
  | none, _ => Int.le_refl _
  | some (_, _), h => h.2.1.2.2.1
theorem CkOK.keep {i : Int} : ∀ {x : Option (Int × Int)}, CkOK c m i x → m'.val (6 + c.threads + 2 * c.slots + 3 * i) = m.val (6 + c.threads + 2 * c.slots + 3 * i) →
    (∀ y, dat c + c.words * i + usedOf x ≤ y → y < dat c + c.words * i + c.words → m'.val y = m.val y) → CkOK c m' i x
  | none, h, h1, h2 => ⟨by rw [h1]; exact h.1, fun y hy hy' => by rw [h2 y (by simp only [usedOf]; omega) hy']; exact h.2 y hy hy'⟩
  | some (k, u), h, h1, h2 => ⟨by rw [h1]; exact h.1, h.2.1, fun y hy hy' => by rw [h2 y hy hy']; exact h.2.2 y hy hy'⟩
theorem WF.eqv (h : WF c A m) (e : Mem.Eqv m m') : WF c A m' := by
  obtain ⟨e1, e2⟩ := e
  refine ⟨by rw [e1]; exact h.len, fun s hs => by rw [e2]; exact h.fs s hs, h.nd, by rw [e2]; exact h.top, h.ch.keep fun _ _ => e2 _, fun s h0 h1 h2 => by rw [e2]; exact h.dead s h0 h1 h2,
    fun s o ho => (h.obs s o ho).keep (e2 _) (fun _ _ _ => e2 _) (fun i k u hk => ⟨u, Int.le_refl _, hk⟩), h.apart, fun i h0 h1 => (h.cks i h0 h1).keep (e2 _) (fun _ _ _ => e2 _), fun k h0 h1 => by rw [e2]; exact h.op k h0 h1, fun s h0 h1 => by rw [e2]; exact h.gb s h0 h1⟩
/-- where an object's words lie -/
theorem WF.obj_at (hc : CfgOK c) (h : WF c A m) {s : Int} {o : Ob} (ho : A.ob s = some o) : dat c ≤ o.ad ∧ o.ad + o.room ≤ dat c + c.words * c.chunks := by
  obtain ⟨i, k, u, e1, e2, e3, e4, e5⟩ := (h.obs s o ho).at'
  have hk := h.cks i e1 e2
  rw [e3] at hk
  obtain ⟨_, ⟨_, _, _, hu⟩, _⟩ := hk
  obtain ⟨p1, p2, p3⟩ := hc.prod e1 (Int.le_of_lt e2)
  have := hc.prod1 e2
  omega
/-- a word that nothing is said of: the epoch's, a pin's, the second and third of a chunk -/
theorem WF.put (hc : CfgOK c) (h : WF c A m) {a : Int} (hl : m'.len = m.len) (hv : ∀ b, b ≠ a → m'.val b = m.val b)
    (ha : a = 0 ∨ (6 ≤ a ∧ a < 6 + c.threads) ∨ (∃ i, 0 ≤ i ∧ i < c.chunks ∧ (a = 6 + c.threads + 2 * c.slots + 3 * i + 1 ∨ a = 6 + c.threads + 2 * c.slots + 3 * i + 2))) : WF c A m' := by
  have ht := hc.t0; have hs := hc.s0; have hk := hc.k0
  have hd : a < dat c := by
    simp only [dat]
    rcases ha with h | h | ⟨i, h1, h2, h3⟩
    · omega
    · omega
    · omega
  have hsl : ∀ s, 0 ≤ s → s < c.slots → 6 + c.threads + 2 * s ≠ a ∧ 6 + c.threads + 2 * s + 1 ≠ a := fun s h0 h1 => by
    rcases ha with h | h | ⟨i, h1, h2, h3⟩ <;> omega
  refine ⟨by rw [hl]; exact h.len, fun s hs => ?_, h.nd, ?_, h.ch.keep fun s hs => ?_, fun s h0 h1 h2 => ?_, fun s o ho => ?_, h.apart, fun i h0 h1 => ?_, fun k h0 h1 => ?_, fun s h0 h1 => by rw [hv _ (hsl s h0 h1).1]; exact h.gb s h0 h1⟩
  · have := h.fs s hs
    rw [hv _ (hsl s this.1.1 this.1.2).1]; exact this
  · rw [hv 1 (by rcases ha with h | h | ⟨i, h1, h2, h3⟩ <;> omega)]; exact h.top
  · have := h.fs s hs
    exact hv _ (hsl s this.1.1 this.1.2).2
  · rw [hv _ (hsl s h0 h1).1]; exact h.dead s h0 h1 h2
  · have := h.obs s o ho
    obtain ⟨q1, q2⟩ := h.obj_at hc ho
    exact this.keep (hv _ (hsl s this.s0 this.s1).1) (fun x hx _ => hv _ (by omega)) (fun i k u hk => ⟨u, Int.le_refl _, hk⟩)
  · obtain ⟨p1, p2, p3⟩ := hc.prod h0 (Int.le_of_lt h1)
    have hcc := h.cks i h0 h1
    refine hcc.keep (hv _ ?_) (fun y hy _ => hv _ ?_)
    · rcases ha with h | h | ⟨i, h1, h2, h3⟩ <;> omega
    · have hu0 : 0 ≤ usedOf (A.ck i) := used0 hcc
      omega
  · rw [hv _ (by rcases ha with h | h | ⟨i, h1, h2, h3⟩ <;> omega)]; exact h.op k h0 h1
end
end Go.Fl

/- An arena at rest: what is done to a word of an object, alone. In plain Lean. -/
namespace Go.Fl
open Go Go.Sx
set_option linter.unusedVariables false
set_option linter.unusedSimpArgs false
set_option linter.unusedSectionVars false

/-- what a step of an act's work keeps -/
def QW (c : Cfg) (m m' : Mem) : Prop := Mem.Tick m m' ∧ ∀ t, (t = 0 ∨ 6 ≤ t ∧ t < 6 + c.threads) → m'.val t = m.val t
section
variable {c : Cfg} {A : Ab} {m m' : Mem} {who : Int}
theorem qw_refl : QW c m m := ⟨.inl rfl, fun _ _ => rfl⟩
theorem qw_load (who a : Int) : QW c m (m.load who a) := ⟨Mem.tick_load .., fun _ _ => Mem.val_load ..⟩
theorem qw_store {a : Int} (h : m.okA a = true) (ha : a ≠ 0 ∧ (a < 6 ∨ 6 + c.threads ≤ a)) (who x : Int) : QW c m (m.store who a x) :=
  ⟨Mem.tick_store .., fun t h0 => by rw [Mem.val_store h, if_neg (by omega)]⟩
theorem qw_add {a : Int} (h : m.okA a = true) (ha : a ≠ 0 ∧ (a < 6 ∨ 6 + c.threads ≤ a)) (who x : Int) : QW c m (m.add who a x) :=
  ⟨Mem.tick_add .., fun t h0 => by rw [Mem.val_add h, if_neg (by omega)]⟩
theorem qw_cas {a o : Int} (h : m.okA a = true) (ha : a ≠ 0 ∧ (a < 6 ∨ 6 + c.threads ≤ a)) (ho : m.val a = o) (who x : Int) : QW c m (m.cas who a o x) :=
  ⟨Mem.tick_cas .., fun t h0 => by rw [Mem.val_cas h ho, if_neg (by omega)]⟩
theorem WF.ok (h : WF c A m) {a : Int} (h0 : 0 ≤ a) (h1 : a < dat c + c.words * c.chunks) : m.okA a = true := by rw [Mem.okA_iff, h.len]; exact ⟨h0, h1⟩

/-- who lives where a handle says -/
def Ab.at' (c : Cfg) (A : Ab) (h : Int) : Option (Int × Ob) :=
  if handleOk h = true ∧ handleSlot h < c.slots then
    match A.ob (handleSlot h) with
    | some o => if o.gen = handleGen h then some (handleSlot h, o) else none
    | none => none
  else none
theorem handleSlot_0 (h : Int) : 0 ≤ handleSlot h := by
  simp only [handleSlot]
  split
  · rw [band_low 16 (p := 65535) (by decide) (by decide), i64_in' (by omega)]; omega
  · omega
theorem at_some {h s : Int} {o : Ob} (e : A.at' c h = some (s, o)) : handleOk h = true ∧ handleSlot h = s ∧ 0 ≤ s ∧ s < c.slots ∧ A.ob s = some o ∧ o.gen = handleGen h := by
  unfold Ab.at' at e
  split at e
  · rename_i h1
    split at e
    · rename_i o' ho
      split at e
      · rename_i hg
        simp only [Option.some.injEq, Prod.mk.injEq] at e
        obtain ⟨rfl, rfl⟩ := e
        exact ⟨h1.1, rfl, handleSlot_0 h, h1.2, ho, hg⟩
      · cases e
    · cases e
  · cases e
theorem live_obj (wf : WF c A m) {s g : Int} {o : Ob} (ho : A.ob s = some o) (hg : o.gen = g) : live (slotState (m.val (6 + c.threads + 2 * s))) (slotGen (m.val (6 + c.threads + 2 * s))) g = true := by
  have h := wf.obs s o ho
  simp only [live, h.st, h.gn, hg, beq_self_eq_true, Bool.true_or, Bool.and_self]
theorem live_not (wf : WF c A m) {s g : Int} (h0 : 0 ≤ s) (h1 : s < c.slots) (ho : ∀ o, A.ob s = some o → o.gen ≠ g) : live (slotState (m.val (6 + c.threads + 2 * s))) (slotGen (m.val (6 + c.threads + 2 * s))) g = false := by
  cases hs : A.ob s with
  | none =>
    rcases wf.dead s h0 h1 hs with h | h <;> simp only [live, h] <;> rfl
  | some o =>
    have h := wf.obs s o hs
    have : (o.gen == g) = false := by rw [beq_eq_false_iff_ne]; exact ho o hs
    simp only [live, h.gn, this, Bool.and_false]

/-- what an act came to: its error, its handle, its value -/
def Cs (d : Done) (e h v : Int) : Prop := d.e = e ∧ d.handle = h ∧ d.value = v

/-- somebody who has seen the handle's word -/
def acc1 (kind h i v old : Int) (own : Bool) (w seen : Int) : Access := ⟨kind, h, i, v, old, own, handleSlot h, handleGen h, 1, w, 0, seen, 0, 0, none, ⟨0, 0, 0, 0⟩⟩
/-- .. and its head -/
def acc2 (kind h i v old : Int) (own : Bool) (w seen size : Int) : Access := ⟨kind, h, i, v, old, own, handleSlot h, handleGen h, 2, w, 0, seen, 0, size, none, ⟨0, 0, 0, 0⟩⟩
/-- .. and its cell -/
def acc3 (kind h i v old : Int) (own : Bool) (w cell seen read size pc : Int) : Access := ⟨kind, h, i, v, old, own, handleSlot h, handleGen h, pc, w, cell, seen, read, size, none, ⟨0, 0, 0, 0⟩⟩
theorem accS0_bad {a : Access} (h0 : a.pc = 0) (hb : handleOk a.handle = false ∨ ¬ handleSlot a.handle < c.slots) :
    accessStep c who a m = ({ a with hslot := handleSlot a.handle, hgen := handleGen a.handle, out := ⟨3, 0, 0, m.steps⟩ }, m, true) := by
  unfold accessStep
  rw [if_pos h0]
  simp only [if_pos hb, accEnd]
variable (hc : CfgOK c) (wf : WF c A m) {kind h i v old : Int} {own : Bool}
include hc wf
theorem acc_none (hn : A.at' c h = none) : ∃ a' m', Ends (accessStep c who) (QW c) 0 (accessNew kind h i v old own) m a' m' ∧ Mem.Eqv m m' ∧ Cs a'.out 3 0 0 := by
  by_cases hb : handleOk h = false ∨ ¬ handleSlot h < c.slots
  · refine ⟨_, _, Ends.one (a' := { accessNew kind h i v old own with hslot := handleSlot h, hgen := handleGen h, out := ⟨3, 0, 0, m.steps⟩ }) (m' := m) ?_ qw_refl, .refl _, rfl, rfl, rfl⟩
    exact accS0_bad (a := accessNew kind h i v old own) rfl hb
  · have h1 : handleOk h = true := by
      cases hh : handleOk h with
      | true => rfl
      | false => exact absurd (.inl hh) hb
    have h2 : handleSlot h < c.slots := by
      by_cases hx : handleSlot h < c.slots
      · exact hx
      · exact absurd (.inr hx) hb
    have h0 := handleSlot_0 h
    have hl := live_not wf (g := handleGen h) h0 h2 (fun o ho hg => by
      simp only [Ab.at', h1, h2, true_and, if_true, ho, hg] at hn
      cases hn)
    have hs := hc.slot h0 (Int.le_of_lt h2)
    refine ⟨_, _, Ends.one (a' := { acc1 kind h i v old own (m.val (slotAt c (handleSlot h))) (m.load who (slotAt c (handleSlot h))).steps with out := ⟨3, 0, 0, (m.load who (slotAt c (handleSlot h))).steps⟩ }) (m' := m.load who (slotAt c (handleSlot h))) ?_ (qw_load ..), Mem.eqv_load .., rfl, rfl, rfl⟩
    rw [← hs] at hl
    simp only [accessStep, accessNew, if_true, if_neg hb, hl, Bool.false_eq_true, if_false, accEnd, acc1]
theorem acc_see {s : Int} {o : Ob} (ha : A.at' c h = some (s, o)) :
    accessStep c who (accessNew kind h i v old own) m = (acc1 kind h i v old own (m.val (6 + c.threads + 2 * s)) (m.load who (slotAt c s)).steps, m.load who (slotAt c s), false) := by
  obtain ⟨h1, rfl, h0, h2, ho, hg⟩ := at_some ha
  have hs := hc.slot h0 (Int.le_of_lt h2)
  have hb : ¬ (handleOk h = false ∨ ¬ handleSlot h < c.slots) := by rw [h1]; simp [h2]
  have hl := live_obj wf ho hg
  rw [← hs] at hl
  rw [← hs]
  simp only [accessStep, accessNew, if_true, if_neg hb, hl, acc1]
theorem acc_own {s : Int} {o : Ob} (ha : A.at' c h = some (s, o)) (hw : o.own ≠ own) : ∃ a' m', Ends (accessStep c who) (QW c) 1 (accessNew kind h i v old own) m a' m' ∧ Mem.Eqv m m' ∧ Cs a'.out 3 0 0 := by
  have h1 := acc_see hc wf (who := who) (kind := kind) (i := i) (v := v) (old := old) (own := own) ha
  obtain ⟨_, rfl, h0, h2, ho, hg⟩ := at_some ha
  have wf1 := wf.eqv (Mem.eqv_load m who (slotAt c (handleSlot h)))
  have ob := wf.obs _ o ho
  have ob1 := wf1.obs _ o ho
  refine ⟨_, _, Ends.step h1 (qw_load ..) (Ends.one (a' := { acc2 kind h i v old own (m.val (6 + c.threads + 2 * handleSlot h)) (m.load who (slotAt c (handleSlot h))).steps o.size with out := ⟨3, 0, 0, ((m.load who (slotAt c (handleSlot h))).load who o.ad).steps⟩ }) (m' := (m.load who (slotAt c (handleSlot h))).load who o.ad) ?_ (qw_load ..)), (Mem.eqv_load ..).trans (Mem.eqv_load ..), rfl, rfl, rfl⟩
  simp only [accessStep, acc1, Int.reduceEq, if_false, if_true, ob.ad, ob1.ho, ob1.hs, if_pos hw, accEnd, acc2]
theorem acc_idx {s : Int} {o : Ob} (ha : A.at' c h = some (s, o)) (hw : o.own = own) (hi : i < 0 ∨ ¬ i < o.size) : ∃ a' m', Ends (accessStep c who) (QW c) 1 (accessNew kind h i v old own) m a' m' ∧ Mem.Eqv m m' ∧ Cs a'.out 4 0 0 := by
  have h1 := acc_see hc wf (who := who) (kind := kind) (i := i) (v := v) (old := old) (own := own) ha
  obtain ⟨_, rfl, h0, h2, ho, hg⟩ := at_some ha
  have wf1 := wf.eqv (Mem.eqv_load m who (slotAt c (handleSlot h)))
  have ob := wf.obs _ o ho
  have ob1 := wf1.obs _ o ho
  refine ⟨_, _, Ends.step h1 (qw_load ..) (Ends.one (a' := { acc2 kind h i v old own (m.val (6 + c.threads + 2 * handleSlot h)) (m.load who (slotAt c (handleSlot h))).steps o.size with out := ⟨4, 0, 0, (m.load who (slotAt c (handleSlot h))).steps⟩ }) (m' := (m.load who (slotAt c (handleSlot h))).load who o.ad) ?_ (qw_load ..)), (Mem.eqv_load ..).trans (Mem.eqv_load ..), rfl, rfl, rfl⟩
  have hw' : ¬ o.own ≠ own := fun h => h hw
  simp only [accessStep, acc1, Int.reduceEq, if_false, if_true, ob.ad, ob1.ho, ob1.hs, if_neg hw', if_pos hi, accEnd, acc2]
/-- up to the cell -/
theorem acc_cell {s : Int} {o : Ob} (ha : A.at' c h = some (s, o)) (hw : o.own = own) {k : Nat} {x : Int} (hk : i = k) (hx : o.vs[k]? = some x) :
    ∃ seen read pc m', Go (accessStep c who) (QW c) 3 (accessNew kind h i v old own) m (acc3 kind h i v old own (m.val (6 + c.threads + 2 * s)) (m.val (o.ad + 1 + i)) seen read o.size pc) m' ∧ Mem.Eqv m m' ∧
      pc = if kind = 1 ∨ (kind = 3 ∧ ¬ x = old) then 6 else 5 := by
  have h1 := acc_see hc wf (who := who) (kind := kind) (i := i) (v := v) (old := old) (own := own) ha
  obtain ⟨_, rfl, h0, h2, ho, hg⟩ := at_some ha
  have wf1 := wf.eqv (Mem.eqv_load m who (slotAt c (handleSlot h)))
  have ob := wf.obs _ o ho
  have ob1 := wf1.obs _ o ho
  have hkl : k < o.vs.length := by
    rcases Nat.lt_or_ge k o.vs.length with h | h
    · exact h
    · rw [List.getElem?_eq_none h] at hx; cases hx
  have hil : i < o.size := by simp only [Ob.size]; omega
  have hw' : ¬ o.own ≠ own := fun h => h hw
  have hi' : ¬ (i < 0 ∨ ¬ i < o.size) := by omega
  obtain ⟨d1, d2⟩ := wf.obj_at hc ho
  obtain ⟨r1, r2, r3, r4⟩ := Ob.room_size ob.cl
  have dl := hc.dat_lt
  have d0 : 0 ≤ dat c := by have := hc.t0; have := hc.s0; have := hc.k0; simp only [dat]; omega
  obtain ⟨c1, c2⟩ := ob.cells k x hx
  rw [← hk] at c1 c2
  refine ⟨(m.load who (slotAt c (handleSlot h))).steps, (((m.load who (slotAt c (handleSlot h))).load who o.ad).load who (o.ad + 1 + i)).steps, _, ((m.load who (slotAt c (handleSlot h))).load who o.ad).load who (o.ad + 1 + i), ?_, ((Mem.eqv_load ..).trans (Mem.eqv_load ..)).trans (Mem.eqv_load ..), rfl⟩
  refine .step h1 (qw_load ..) (.step (a1 := acc2 kind h i v old own (m.val (6 + c.threads + 2 * handleSlot h)) (m.load who (slotAt c (handleSlot h))).steps o.size) (m1 := (m.load who (slotAt c (handleSlot h))).load who o.ad) ?_ (qw_load ..) (.one ?_ (qw_load ..)))
  · simp only [accessStep, acc1, Int.reduceEq, if_false, if_true, ob.ad, ob1.ho, ob1.hs, if_neg hw', if_neg hi', acc2]
  · have ea : i64 (i64 (o.ad + 1) + i) = o.ad + 1 + i := by rw [i64_in' (n := o.ad + 1) (by omega), i64_in' (by omega)]
    simp only [accessStep, acc2, Int.reduceEq, if_false, if_true, accAt, ob.ad, ea, accNext, Mem.val_load, ob.st, c1, c2, true_or, acc3]
    by_cases hk : kind = 1 ∨ (kind = 3 ∧ ¬ x = old)
    · simp only [if_pos hk, Int.reduceEq, if_false]
    · simp only [if_neg hk, Int.reduceEq, if_false]
theorem acc_read {s : Int} {o : Ob} (ha : A.at' c h = some (s, o)) (hw : o.own = own) {k : Nat} {x : Int} (hk : i = k) (hx : o.vs[k]? = some x) (hd : kind = 1 ∨ (kind = 3 ∧ ¬ x = old)) :
    ∃ a' m', Ends (accessStep c who) (QW c) 3 (accessNew kind h i v old own) m a' m' ∧ Mem.Eqv m m' ∧ Cs a'.out (if kind = 3 then 8 else 0) 0 x := by
  obtain ⟨seen, read, pc, m1, hgo, heq, hpc⟩ := acc_cell hc wf (who := who) (kind := kind) (v := v) (old := old) ha hw hk hx
  rw [if_pos hd] at hpc
  subst hpc
  obtain ⟨_, rfl, h0, h2, ho, hg⟩ := at_some ha
  have ob := wf.obs _ o ho
  have wf1 := wf.eqv heq
  have hl := live_obj wf1 ho hg
  have hs := hc.slot h0 (Int.le_of_lt h2)
  obtain ⟨c1, c2⟩ := ob.cells k x hx
  rw [← hk] at c1 c2
  refine ⟨_, _, hgo.ends (Ends.one (a' := { acc3 kind h i v old own (m.val (6 + c.threads + 2 * handleSlot h)) (m.val (o.ad + 1 + i)) seen read o.size 6 with out := ⟨if kind = 3 then 8 else 0, 0, x, read⟩ }) (m' := m1.load who (slotAt c (handleSlot h))) ?_ (qw_load ..)), heq.trans (Mem.eqv_load ..), rfl, rfl, rfl⟩
  have hl' : ¬ live (slotState (m1.val (6 + c.threads + 2 * handleSlot h))) (slotGen (m1.val (6 + c.threads + 2 * handleSlot h))) (handleGen h) = false := by rw [hl]; simp
  have ha' : ¬ ¬ slotAddr (m1.val (6 + c.threads + 2 * handleSlot h)) = slotAddr (m.val (6 + c.threads + 2 * handleSlot h)) := by rw [heq.2]; simp
  simp only [accessStep, acc3, Int.reduceEq, if_false, hs]
  refine (if_neg hl').trans ((if_neg ha').trans ?_)
  simp only [accEnd, c2]
  split <;> rfl
/-- what is not given out of a chunk is no object's -/
theorem WF.zero_apart {s : Int} {o : Ob} (ho : A.ob s = some o) {a : Int} (h0 : o.ad ≤ a) (h1 : a < o.ad + o.room) {i y : Int} (hi0 : 0 ≤ i) (hi1 : i < c.chunks)
    (hy : dat c + c.words * i + usedOf (A.ck i) ≤ y) (hy' : y < dat c + c.words * i + c.words) : y ≠ a := by
  obtain ⟨j, k, u, e1, e2, e3, e4, e5⟩ := (wf.obs s o ho).at'
  have hj := wf.cks j e1 e2
  rw [e3] at hj
  obtain ⟨_, ⟨_, _, _, hu⟩, _⟩ := hj
  have hi := wf.cks i hi0 hi1
  have hn : 0 ≤ usedOf (A.ck i) := used0 hi
  by_cases hij : i = j
  · subst hij
    rw [e3] at hy
    simp only [usedOf] at hy
    omega
  · rcases Int.lt_or_lt_of_ne hij with h | h
    · have := hc.prod1 h; omega
    · have := hc.prod1 h; omega
def Ab.set (A : Ab) (s : Int) (x : Option Ob) : Ab := { A with ob := fun j => if j = s then x else A.ob j }
omit hc wf in
theorem Ab.set_self (A : Ab) (s : Int) (x : Option Ob) : (A.set s x).ob s = x := if_pos rfl
omit hc wf in
theorem Ab.set_ne (A : Ab) {s j : Int} (x : Option Ob) (h : j ≠ s) : (A.set s x).ob j = A.ob j := if_neg h
/-- an object's word, laid -/
theorem WF.word {s : Int} {o : Ob} (ho : A.ob s = some o) {k : Nat} (hk : k < o.vs.length) {x : Int} (hx : 0 ≤ x) (hx' : x ≤ 1099511627775) (hl : m'.len = m.len)
    (hv : ∀ b, m'.val b = if b = o.ad + 1 + k then putCell x false 0 else m.val b) : WF c (A.set s (some { o with vs := o.vs.set k x })) m' := by
  obtain ⟨d1, d2⟩ := wf.obj_at hc ho
  have ob := wf.obs _ o ho
  obtain ⟨r1, r2, r3, r4⟩ := Ob.room_size ob.cl
  have ht := hc.t0; have hs := hc.s0; have hk0 := hc.k0
  have hkk : (k : Int) < o.size := by simp only [Ob.size]; omega
  have hd : 6 + c.threads + 2 * c.slots + 3 * c.chunks = dat c := rfl
  have hne : ∀ b, b ≠ o.ad + 1 + k → m'.val b = m.val b := fun b hb => by rw [hv, if_neg hb]
  have hsz : ({ o with vs := o.vs.set k x } : Ob).size = o.size := by simp only [Ob.size, List.length_set]
  have hrm : ({ o with vs := o.vs.set k x } : Ob).room = o.room := by simp only [Ob.room, hsz]
  refine ⟨by rw [hl]; exact wf.len, fun t htm => ?_, wf.nd, ?_, wf.ch.keep fun t htm => ?_, fun t h0 h1 h2 => ?_, fun t q hq => ?_, fun t t' q q' hq hq' hne' => ?_, fun i h0 h1 => ?_, fun k' h0 h1 => ?_, fun t h0 h1 => by rw [hne _ (by omega)]; exact wf.gb t h0 h1⟩
  · have h3 := wf.fs t htm
    have : t ≠ s := fun e => by rw [e, ho] at h3; exact absurd h3.2.1 (by simp)
    rw [hne _ (by omega), A.set_ne _ this]; exact h3
  · rw [hne _ (by omega)]; exact wf.top
  · have h3 := wf.fs t htm
    exact hne _ (by omega)
  · by_cases hts : t = s
    · subst hts; rw [A.set_self] at h2; cases h2
    · rw [A.set_ne _ hts] at h2
      rw [hne _ (by omega)]; exact wf.dead t h0 h1 h2
  · by_cases hts : t = s
    · subst hts
      rw [A.set_self] at hq
      simp only [Option.some.injEq] at hq
      subst hq
      have e1 : m'.val (6 + c.threads + 2 * t) = m.val (6 + c.threads + 2 * t) := hne _ (by have := ob.s1; omega)
      have e2 : m'.val o.ad = m.val o.ad := hne _ (by omega)
      refine ⟨ob.s0, ob.s1, by rw [e1]; exact ob.st, by rw [e1]; exact ob.ad, by rw [e1]; exact ob.gn, ob.g0, ob.g1, by rw [hsz]; rw [e2]; exact ob.hs, by rw [e2]; exact ob.ho, by rw [hsz]; exact ob.cl, fun j y hy => ?_, ?_⟩
      · simp only at hy
        show cellFrozen (m'.val (o.ad + 1 + j)) = false ∧ cellValue (m'.val (o.ad + 1 + j)) = y
        by_cases hjk : j = k
        · subst hjk
          rw [List.getElem?_set_self hk] at hy
          simp only [Option.some.injEq] at hy
          subst hy
          rw [hv, if_pos rfl]
          exact cell_of hx hx'
        · rw [List.getElem?_set_ne (by omega)] at hy
          rw [hne _ (by omega)]
          exact ob.cells j y hy
      · rw [hrm]; exact ob.at'
    · rw [A.set_ne _ hts] at hq
      have h3 := wf.obs t q hq
      refine h3.keep (hne _ (by have := h3.s1; omega)) (fun y hy hy' => hne _ ?_) (fun i k u hk => ⟨u, Int.le_refl _, hk⟩)
      have := wf.apart t s q o hq ho hts
      omega
  · by_cases hts : t = s
    · subst hts
      rw [A.set_self] at hq
      simp only [Option.some.injEq] at hq
      subst hq
      rw [A.set_ne _ (fun e => hne' e.symm)] at hq'
      rw [hrm]
      exact wf.apart t t' o q' ho hq' hne'
    · rw [A.set_ne _ hts] at hq
      by_cases hts' : t' = s
      · subst hts'
        rw [A.set_self] at hq'
        simp only [Option.some.injEq] at hq'
        subst hq'
        rw [hrm]
        exact wf.apart t t' q o hq ho hne'
      · rw [A.set_ne _ hts'] at hq'
        exact wf.apart t t' q q' hq hq' hne'
  · refine (wf.cks i h0 h1).keep (hne _ (by omega)) (fun y hy hy' => hne _ ?_)
    exact wf.zero_apart hc ho (a := o.ad + 1 + k) (by omega) (by omega) h0 h1 hy hy'
  · rw [hne _ (by omega)]; exact wf.op k' h0 h1
theorem acc_write {s : Int} {o : Ob} (ha : A.at' c h = some (s, o)) (hw : o.own = own) {k : Nat} {x : Int} (hk : i = k) (hx : o.vs[k]? = some x) (hd : ¬ (kind = 1 ∨ (kind = 3 ∧ ¬ x = old)))
    (hv : 0 ≤ v) (hv' : v ≤ 1099511627775) :
    ∃ a' m', Ends (accessStep c who) (QW c) 3 (accessNew kind h i v old own) m a' m' ∧ WF c (A.set s (some { o with vs := o.vs.set k v })) m' ∧ Cs a'.out 0 0 x := by
  obtain ⟨seen, read, pc, m1, hgo, heq, hpc⟩ := acc_cell hc wf (who := who) (kind := kind) (v := v) (old := old) ha hw hk hx
  rw [if_neg hd] at hpc
  subst hpc
  obtain ⟨_, rfl, h0, h2, ho, hg⟩ := at_some ha
  have ob := wf.obs _ o ho
  have wf1 := wf.eqv heq
  have hkl : k < o.vs.length := by
    rcases Nat.lt_or_ge k o.vs.length with h | h
    · exact h
    · rw [List.getElem?_eq_none h] at hx; cases hx
  obtain ⟨d1, d2⟩ := wf.obj_at hc ho
  obtain ⟨r1, r2, r3, r4⟩ := Ob.room_size ob.cl
  have hkk : (k : Int) < o.size := by simp only [Ob.size]; omega
  have dl := hc.dat_lt
  have ht := hc.t0; have hs := hc.s0; have hk0 := hc.k0
  have hdd : 6 + c.threads + 2 * c.slots + 3 * c.chunks = dat c := rfl
  obtain ⟨c1, c2⟩ := ob.cells k x hx
  rw [← hk] at c1 c2
  have ea : i64 (i64 (o.ad + 1) + i) = o.ad + 1 + i := by rw [i64_in' (n := o.ad + 1) (by omega), i64_in' (by omega)]
  have hok : m1.okA (o.ad + 1 + i) = true := wf1.ok (by omega) (by omega)
  have hval : m1.val (o.ad + 1 + i) = m.val (o.ad + 1 + i) := heq.2 _
  have hcas : m1.casOk (o.ad + 1 + i) (m.val (o.ad + 1 + i)) = true := by rw [Mem.casOk_eq hok, hval]; exact beq_self_eq_true _
  refine ⟨_, _, hgo.ends (Ends.one (a' := { acc3 kind h i v old own (m.val (6 + c.threads + 2 * handleSlot h)) (m.val (o.ad + 1 + i)) seen read o.size 0 with out := ⟨0, 0, x, (m1.cas who (o.ad + 1 + i) (m.val (o.ad + 1 + i)) (putCell v false 0)).steps⟩ }) (m' := m1.cas who (o.ad + 1 + i) (m.val (o.ad + 1 + i)) (putCell v false 0)) ?_ (qw_cas hok (by omega) hval ..)), ?_, rfl, rfl, rfl⟩
  · simp only [accessStep, acc3, Int.reduceEq, if_false, if_true, accAt, ob.ad, ea, hcas, accEnd, c2]
  · refine wf1.word hc ho hkl hv hv' (Mem.len_cas ..) fun b => ?_
    rw [Mem.val_cas hok hval, hk]
end
end Go.Fl

/- An arena at rest: an object is let go, alone. In plain Lean. -/
namespace Go.Fl
open Go Go.Sx
set_option linter.unusedVariables false
set_option linter.unusedSimpArgs false
set_option linter.unusedSectionVars false
section
variable {c : Cfg} {A : Ab} {m m' : Mem} {who : Int} (hc : CfgOK c) (wf : WF c A m)

/-! ### the stack of free slots -/
include wf in
theorem hdI_range (hc : CfgOK c) {l : List Int} (h : ∀ s ∈ l, 0 ≤ s ∧ s < c.slots) : -1 ≤ hdI l ∧ hdI l ≤ 65535 := by
  have := hc.s1
  cases l with
  | nil => simp [hdI]
  | cons s r =>
    have := h s (List.mem_cons_self ..)
    simp only [hdI]; omega
include hc wf
theorem WF.give {s n : Int} (h0 : 0 ≤ s) (h1 : s < c.slots) (hs : A.ob s = none) (hn : s ∉ A.fs) (hg : 1 ≤ slotGen (m.val (6 + c.threads + 2 * s))) (hg' : slotGen (m.val (6 + c.threads + 2 * s)) ≤ c.gens)
    (hl : m'.len = m.len) (hv : ∀ b, m'.val b = if b = 1 then putTop s n else if b = 6 + c.threads + 2 * s + 1 then putTop (topSlot (m.val 1)) 0 else m.val b) :
    WF c { A with fs := s :: A.fs } m' := by
  have ht := hc.t0; have hs0 := hc.s0; have hk0 := hc.k0; have hs1 := hc.s1
  have hd : 6 + c.threads + 2 * c.slots + 3 * c.chunks = dat c := rfl
  have hr := hdI_range wf hc (fun s hs => (wf.fs s hs).1)
  have hne : ∀ b, b ≠ 1 → b ≠ 6 + c.threads + 2 * s + 1 → m'.val b = m.val b := fun b h2 h3 => by rw [hv, if_neg h2, if_neg h3]
  refine ⟨by rw [hl]; exact wf.len, fun t htm => ?_, List.nodup_cons.2 ⟨hn, wf.nd⟩, ?_, ⟨?_, wf.ch.keep fun t htm => ?_⟩, fun t h2 h3 h4 => ?_, fun t q hq => ?_, wf.apart, fun i h2 h3 => ?_, fun k h2 h3 => ?_, fun t h2 h3 => by rw [hne _ (by omega) (by omega)]; exact wf.gb t h2 h3⟩
  · rcases List.mem_cons.1 htm with rfl | htm
    · rw [hne _ (by omega) (by omega)]; exact ⟨⟨h0, h1⟩, hs, hg, hg'⟩
    · have h5 := wf.fs t htm
      rw [hne _ (by omega) (by omega)]; exact h5
  · rw [hv, if_pos rfl, top_of _ (by omega) (by omega)]; rfl
  · rw [hv, if_neg (by omega), if_pos rfl, wf.top, top_of _ hr.1 hr.2]
  · have h5 := wf.fs t htm
    have : t ≠ s := fun e => by rw [e] at htm; exact hn htm
    exact hne _ (by omega) (by omega)
  · rw [hne _ (by omega) (by omega)]; exact wf.dead t h2 h3 h4
  · have h5 := wf.obs t q hq
    have h6 := wf.obj_at hc hq
    exact h5.keep (hne _ (by have := h5.s0; omega) (by omega)) (fun y hy hy' => hne _ (by omega) (by omega)) (fun i k u hk => ⟨u, Int.le_refl _, hk⟩)
  · obtain ⟨p1, p2, p3⟩ := hc.prod h2 (Int.le_of_lt h3)
    have hcc := wf.cks i h2 h3
    refine hcc.keep (hne _ (by omega) (by omega)) (fun y hy _ => ?_)
    have hu0 : 0 ≤ usedOf (A.ck i) := used0 hcc
    exact hne _ (by omega) (by omega)
  · rw [hne _ (by omega) (by omega)]; exact wf.op k h2 h3
theorem WF.take {s n : Int} {r : List Int} (hf : A.fs = s :: r) (hl : m'.len = m.len) (hv : ∀ b, m'.val b = if b = 1 then putTop (topSlot (m.val (6 + c.threads + 2 * s + 1))) n else m.val b) :
    WF c { A with fs := r } m' := by
  have ht := hc.t0; have hs0 := hc.s0; have hk0 := hc.k0; have hs1 := hc.s1
  have hd : 6 + c.threads + 2 * c.slots + 3 * c.chunks = dat c := rfl
  have hfs := wf.fs
  rw [hf] at hfs
  have hr := hdI_range wf hc (l := r) (fun s hs => (hfs s (List.mem_cons_of_mem _ hs)).1)
  have hch := wf.ch
  rw [hf] at hch
  have hnd := wf.nd
  rw [hf] at hnd
  have hne : ∀ b, b ≠ 1 → m'.val b = m.val b := fun b h2 => by rw [hv, if_neg h2]
  refine ⟨by rw [hl]; exact wf.len, fun t htm => ?_, (List.nodup_cons.1 hnd).2, ?_, hch.2.keep fun t htm => ?_, fun t h2 h3 h4 => ?_, fun t q hq => ?_, wf.apart, fun i h2 h3 => ?_, fun k h2 h3 => ?_, fun t h2 h3 => by rw [hne _ (by omega)]; exact wf.gb t h2 h3⟩
  · have h5 := hfs t (List.mem_cons_of_mem _ htm)
    rw [hne _ (by omega)]; exact h5
  · rw [hv, if_pos rfl, hch.1, top_of _ hr.1 hr.2]
  · have h5 := hfs t (List.mem_cons_of_mem _ htm)
    exact hne _ (by omega)
  · rw [hne _ (by omega)]; exact wf.dead t h2 h3 h4
  · have h5 := wf.obs t q hq
    have h6 := wf.obj_at hc hq
    exact h5.keep (hne _ (by have := h5.s0; omega)) (fun y hy hy' => hne _ (by omega)) (fun i k u hk => ⟨u, Int.le_refl _, hk⟩)
  · obtain ⟨p1, p2, p3⟩ := hc.prod h2 (Int.le_of_lt h3)
    have hcc := wf.cks i h2 h3
    refine hcc.keep (hne _ (by omega)) (fun y hy _ => ?_)
    have hu0 : 0 ≤ usedOf (A.ck i) := used0 hcc
    exact hne _ (by omega)
  · rw [hne _ (by omega)]; exact wf.op k h2 h3
/-- nobody lives there any more -/
theorem WF.kill {s : Int} {o : Ob} (ho : A.ob s = some o) (hl : m'.len = m.len) (hst : slotState (m'.val (6 + c.threads + 2 * s)) = 0 ∨ slotState (m'.val (6 + c.threads + 2 * s)) = 3) (hgn : slotGen (m'.val (6 + c.threads + 2 * s)) ≤ o.gen + 1)
    (hne : ∀ b, b ≠ 6 + c.threads + 2 * s → (b < o.ad ∨ o.ad + o.room ≤ b) → m'.val b = m.val b) : WF c { A.set s none with gb := A.gb + 1 } m' := by
  have ht := hc.t0; have hs0 := hc.s0; have hk0 := hc.k0; have hs1 := hc.s1
  have hd : 6 + c.threads + 2 * c.slots + 3 * c.chunks = dat c := rfl
  obtain ⟨d1, d2⟩ := wf.obj_at hc ho
  have ob := wf.obs _ o ho
  have hos := ob.s0; have hos1 := ob.s1
  refine ⟨by rw [hl]; exact wf.len, fun t htm => ?_, wf.nd, ?_, wf.ch.keep fun t htm => ?_, fun t h2 h3 h4 => ?_, fun t q hq => ?_, fun t t' q q' hq hq' hne' => ?_, fun i h2 h3 => ?_, fun k h2 h3 => ?_, fun t h2 h3 => ?_⟩
  · have h3 := wf.fs t htm
    have : t ≠ s := fun e => by rw [e, ho] at h3; exact absurd h3.2.1 (by simp)
    rw [hne _ (by omega) (by omega), A.set_ne _ this]; exact h3
  · rw [hne _ (by omega) (by omega)]; exact wf.top
  · have h3 := wf.fs t htm
    exact hne _ (by omega) (by omega)
  · by_cases hts : t = s
    · subst hts; exact hst
    · rw [A.set_ne _ hts] at h4
      rw [hne _ (by omega) (by omega)]; exact wf.dead t h2 h3 h4
  · by_cases hts : t = s
    · subst hts; rw [A.set_self] at hq; cases hq
    · rw [A.set_ne _ hts] at hq
      have h5 := wf.obs t q hq
      have h6 := wf.obj_at hc hq
      have h7 := wf.apart t s q o hq ho hts
      exact h5.keep (hne _ (by omega) (by have := h5.s1; omega)) (fun y hy hy' => hne _ (by omega) (by omega)) (fun i k u hk => ⟨u, Int.le_refl _, hk⟩)
  · by_cases hts : t = s
    · subst hts; rw [A.set_self] at hq; cases hq
    · by_cases hts' : t' = s
      · subst hts'; rw [A.set_self] at hq'; cases hq'
      · rw [A.set_ne _ hts] at hq; rw [A.set_ne _ hts'] at hq'
        exact wf.apart t t' q q' hq hq' hne'
  · obtain ⟨p1, p2, p3⟩ := hc.prod h2 (Int.le_of_lt h3)
    have hcc := wf.cks i h2 h3
    refine hcc.keep (hne _ (by omega) (by omega)) (fun y hy hy' => ?_)
    have h5 : 0 ≤ usedOf (A.ck i) := used0 hcc
    refine hne _ (by omega) ?_
    by_cases hin : y < o.ad ∨ o.ad + o.room ≤ y
    · exact hin
    · exact absurd rfl (wf.zero_apart hc ho (a := y) (by omega) (by omega) h2 h3 hy hy')
  · rw [hne _ (by omega) (by omega)]; exact wf.op k h2 h3
  · have h5 := wf.gb t h2 h3
    by_cases hts : t = s
    · subst hts
      have h6 := ob.gn
      show slotGen _ ≤ A.gb + 1
      omega
    · rw [hne _ (by omega) (by omega)]
      show slotGen _ ≤ A.gb + 1
      omega

/-- a slot is given back -/
theorem give_run {s : Int} (h0 : 0 ≤ s) (h1 : s < c.slots) (hs : A.ob s = none) (hn : s ∉ A.fs) (hg : 1 ≤ slotGen (m.val (6 + c.threads + 2 * s))) (hg' : slotGen (m.val (6 + c.threads + 2 * s)) ≤ c.gens) :
    ∃ g' m', Ends (giveStep c who) (QW c) 2 (giveNew s) m g' m' ∧ WF c { A with fs := s :: A.fs } m' := by
  have ht := hc.t0; have hs0 := hc.s0; have hk0 := hc.k0; have hs1 := hc.s1
  have hd : 6 + c.threads + 2 * c.slots + 3 * c.chunks = dat c := rfl
  obtain ⟨p1, p2, p3⟩ := hc.prod (i := c.chunks) (by omega) (Int.le_refl _)
  have hs' := hc.slot' h0 (Int.le_of_lt h1)
  have k1 : (m.load who 1).okA (6 + c.threads + 2 * s + 1) = true := by rw [Mem.okA_of (Mem.len_load ..)]; exact wf.ok (by omega) (by omega)
  have k2 : ((m.load who 1).store who (6 + c.threads + 2 * s + 1) (putTop (topSlot (m.val 1)) 0)).okA 1 = true := by rw [Mem.okA_of (Mem.len_store ..), Mem.okA_of (Mem.len_load ..)]; exact wf.ok (by omega) (by omega)
  have k3 : ((m.load who 1).store who (6 + c.threads + 2 * s + 1) (putTop (topSlot (m.val 1)) 0)).val 1 = m.val 1 := by rw [Mem.val_store k1, if_neg (by omega), Mem.val_load]
  refine ⟨⟨0, s, m.val 1⟩, _, Ends.step (a1 := ⟨1, s, m.val 1⟩) (m1 := m.load who 1) ?_ (qw_load ..) (Ends.step (a1 := ⟨2, s, m.val 1⟩) (m1 := (m.load who 1).store who (6 + c.threads + 2 * s + 1) (putTop (topSlot (m.val 1)) 0)) ?_ (qw_store k1 (by omega) ..)
    (Ends.one (m' := ((m.load who 1).store who (6 + c.threads + 2 * s + 1) (putTop (topSlot (m.val 1)) 0)).cas who 1 (m.val 1) (putTop s (i64 (topCount (m.val 1) + 1)))) ?_ (qw_cas k2 (by omega) k3 ..))), ?_⟩
  · simp only [giveStep, giveNew, if_true]
  · simp only [giveStep, Int.reduceEq, if_false, if_true, hs']
  · have : ((m.load who 1).store who (6 + c.threads + 2 * s + 1) (putTop (topSlot (m.val 1)) 0)).casOk 1 (m.val 1) = true := by rw [Mem.casOk_eq k2, k3]; exact beq_self_eq_true _
    simp only [giveStep, Int.reduceEq, if_false, this]
  · refine wf.give hc (n := i64 (topCount (m.val 1) + 1)) h0 h1 hs hn hg hg' ?_ fun b => ?_
    · rw [Mem.len_cas, Mem.len_store, Mem.len_load]
    · rw [Mem.val_cas k2 k3, Mem.val_store k1, Mem.val_load]

/-! ### an object is let go -/
omit wf in
/-- its words, one behind the other -/
theorem help_cells {s w ad n V : Int} (hw : slotAddr w = ad) (hV : slotVer w = V) (h0 : dat c ≤ ad) (h1 : ad + 1 + n ≤ dat c + c.words * c.chunks) : ∀ (r : Nat) (i cell : Int) (m : Mem), 0 ≤ i → i + r = n →
    m.len = dat c + c.words * c.chunks → (∀ j, i ≤ j → j < n → cellFrozen (m.val (ad + 1 + j)) = false) →
    ∃ cell' m', Go (helpStep c who) (QW c) (2 * r) ⟨s, w, n, i, cell, false, false⟩ m ⟨s, w, n, n, cell', false, false⟩ m' ∧ m'.len = m.len ∧ ∀ b, (b < ad + 1 + i ∨ ad + 1 + n ≤ b) → m'.val b = m.val b
  | 0, i, cell, m, hi, hr, hl, hf => by
    have : i = n := by omega
    subst this
    exact ⟨cell, m, .refl _ _, rfl, fun _ _ => rfl⟩
  | r + 1, i, cell, m, hi, hr, hl, hf => by
    have ht := hc.t0; have hs0 := hc.s0; have hk0 := hc.k0
    have hd : 6 + c.threads + 2 * c.slots + 3 * c.chunks = dat c := rfl
    have dl := hc.dat_lt
    have ea : i64 (i64 (ad + 1) + i) = ad + 1 + i := by rw [i64_in' (n := ad + 1) (by omega), i64_in' (by omega)]
    have k1 : (m.load who (ad + 1 + i)).okA (ad + 1 + i) = true := by rw [Mem.okA_iff, Mem.len_load]; omega
    have k2 : (m.load who (ad + 1 + i)).val (ad + 1 + i) = m.val (ad + 1 + i) := Mem.val_load ..
    have hlt : ¬ ¬ i < n := fun h => h (by omega)
    have s1 : helpStep c who ⟨s, w, n, i, cell, false, false⟩ m = (⟨s, w, n, i, m.val (ad + 1 + i), true, false⟩, m.load who (ad + 1 + i), false) := by
      simp only [helpStep, if_neg hlt, if_true, hw, ea, hf i (Int.le_refl _) (by omega), true_or]
    have hcas : (m.load who (ad + 1 + i)).casOk (ad + 1 + i) (m.val (ad + 1 + i)) = true := by rw [Mem.casOk_eq k1, k2]; exact beq_self_eq_true _
    have ei : i64 (i + 1) = i + 1 := i64_in' (by omega)
    have s2 : helpStep c who ⟨s, w, n, i, m.val (ad + 1 + i), true, false⟩ (m.load who (ad + 1 + i)) =
        (⟨s, w, n, i + 1, m.val (ad + 1 + i), false, false⟩, (m.load who (ad + 1 + i)).cas who (ad + 1 + i) (m.val (ad + 1 + i)) (putCell (cellValue (m.val (ad + 1 + i))) true V), false) := by
      simp only [helpStep, if_neg hlt, Bool.true_eq_false, if_false, hw, ea, hcas, if_true, hV, ei]
    generalize hm2 : (m.load who (ad + 1 + i)).cas who (ad + 1 + i) (m.val (ad + 1 + i)) (putCell (cellValue (m.val (ad + 1 + i))) true V) = m2 at s2
    have hv2 : ∀ b, b ≠ ad + 1 + i → m2.val b = m.val b := fun b hb => by rw [← hm2, Mem.val_cas k1 k2, if_neg hb, Mem.val_load]
    have hl2 : m2.len = m.len := by rw [← hm2, Mem.len_cas, Mem.len_load]
    have q2 : QW c (m.load who (ad + 1 + i)) m2 := by rw [← hm2]; exact qw_cas k1 (by omega) k2 ..
    obtain ⟨cell', m', g1, g2, g3⟩ := help_cells hw hV h0 h1 r (i + 1) (m.val (ad + 1 + i)) m2 (by omega) (by omega) (by rw [hl2]; exact hl) (fun j hj hj' => by rw [hv2 _ (by omega)]; exact hf j (by omega) hj')
    refine ⟨cell', m', ?_, g2.trans hl2, fun b hb => ?_⟩
    · have := Go.step s1 (qw_load ..) (Go.step s2 q2 g1)
      rw [show 2 * (r + 1) = 2 * r + 1 + 1 by omega]
      exact this
    · rw [g3 b (by omega), hv2 b (by omega)]

/-- what is behind when an object was let go -/
def Ab.kill (A : Ab) (s : Int) : Ab := { A.set s none with gb := A.gb + 1 }
def Ab.drop (c : Cfg) (A : Ab) (s : Int) (o : Ob) : Ab := if o.gen < c.gens then { A.kill s with fs := s :: A.fs } else A.kill s
omit hc wf in
theorem of_range {n : Nat} (hc : CfgOK c) {x : Int} (h0 : dat c ≤ x) (h1 : x < dat c + c.words * c.chunks) : 0 ≤ ofAt c x ∧ ofAt c x < c.chunks ∧ n = n := by
  have dl := hc.dat_lt
  have ht := hc.t0; have hs0 := hc.s0; have hk0 := hc.k0; have hw := hc.w0; have hk1 := hc.k1
  have hd : 6 + c.threads + 2 * c.slots + 3 * c.chunks = dat c := rfl
  have hb := hc.base (i := 0) (Int.le_refl _) (by omega)
  rw [Int.mul_zero, Int.add_zero] at hb
  have hx : (x - dat c) / c.words < c.chunks := Int.ediv_lt_of_lt_mul (by omega) (by rw [Int.mul_comm]; omega)
  have hx0 : 0 ≤ (x - dat c) / c.words := Int.ediv_nonneg (by omega) (by omega)
  have e : ofAt c x = (x - dat c) / c.words := by
    simp only [ofAt, hb, hc.len]
    rw [if_neg (by omega), if_neg (by simp; omega), i64_in' (n := x - dat c) (by omega), Int.tdiv_eq_ediv_of_nonneg (by omega), i64_in' (by omega)]
  rw [e]; exact ⟨hx0, hx, rfl⟩

omit hc wf in
theorem dropS0_bad {d : Drop} (h0 : d.pc = 0) (hb : handleOk d.n = false ∨ ¬ handleSlot d.n < c.slots) :
    dropStep c who d m = ({ d with hslot := handleSlot d.n, hgen := handleGen d.n, out := ⟨3, 0, 0, m.steps⟩ }, m, true) := by
  unfold dropStep
  rw [if_pos h0]
  simp only [if_pos hb, dropInvalid]
theorem drop_none {h : Int} {own : Bool} (hn : A.at' c h = none) : ∃ a' m', Ends (dropStep c who) (QW c) 0 (dropNew h own) m a' m' ∧ Mem.Eqv m m' ∧ Cs a'.out 3 0 0 := by
  by_cases hb : handleOk h = false ∨ ¬ handleSlot h < c.slots
  · refine ⟨_, _, Ends.one (a' := { dropNew h own with hslot := handleSlot h, hgen := handleGen h, out := ⟨3, 0, 0, m.steps⟩ }) (m' := m) ?_ qw_refl, .refl _, rfl, rfl, rfl⟩
    exact dropS0_bad (d := dropNew h own) rfl hb
  · have h1 : handleOk h = true := by
      cases hh : handleOk h with
      | true => rfl
      | false => exact absurd (.inl hh) hb
    have h2 : handleSlot h < c.slots := by
      by_cases hx : handleSlot h < c.slots
      · exact hx
      · exact absurd (.inr hx) hb
    have h0 := handleSlot_0 h
    have hl := live_not wf (g := handleGen h) h0 h2 (fun o ho hg => by
      simp only [Ab.at', h1, h2, true_and, if_true, ho, hg] at hn
      cases hn)
    have hs := hc.slot h0 (Int.le_of_lt h2)
    refine ⟨_, _, Ends.one (a' := { dropNew h own with hslot := handleSlot h, hgen := handleGen h, w := m.val (slotAt c (handleSlot h)), out := ⟨3, 0, 0, (m.load who (slotAt c (handleSlot h))).steps⟩ }) (m' := m.load who (slotAt c (handleSlot h))) ?_ (qw_load ..), Mem.eqv_load .., rfl, rfl, rfl⟩
    rw [← hs] at hl
    simp only [dropStep, dropNew, if_true, if_neg hb, hl, Bool.false_eq_true, if_false, dropInvalid]
def drop1 (h : Int) (own : Bool) (w : Int) : Drop := ⟨h, own, handleSlot h, handleGen h, 1, w, 0, none, none, ⟨0, 0, 0, 0⟩⟩
theorem drop_see {h s : Int} {own : Bool} {o : Ob} (ha : A.at' c h = some (s, o)) :
    dropStep c who (dropNew h own) m = (drop1 h own (m.val (6 + c.threads + 2 * s)), m.load who (slotAt c s), false) := by
  obtain ⟨h1, rfl, h0, h2, ho, hg⟩ := at_some ha
  have hs := hc.slot h0 (Int.le_of_lt h2)
  have hb : ¬ (handleOk h = false ∨ ¬ handleSlot h < c.slots) := by rw [h1]; simp [h2]
  have hl := live_obj wf ho hg
  rw [← hs] at hl
  rw [← hs]
  simp only [dropStep, dropNew, if_true, if_neg hb, hl, drop1]
theorem drop_own {h s : Int} {own : Bool} {o : Ob} (ha : A.at' c h = some (s, o)) (hw : o.own ≠ own) : ∃ a' m', Ends (dropStep c who) (QW c) 1 (dropNew h own) m a' m' ∧ Mem.Eqv m m' ∧ Cs a'.out 3 0 0 := by
  have h1 := drop_see hc wf (who := who) (own := own) ha
  obtain ⟨_, rfl, h0, h2, ho, hg⟩ := at_some ha
  have wf1 := wf.eqv (Mem.eqv_load m who (slotAt c (handleSlot h)))
  have ob := wf.obs _ o ho
  have ob1 := wf1.obs _ o ho
  refine ⟨_, _, Ends.step h1 (qw_load ..) (Ends.one (a' := { drop1 h own (m.val (6 + c.threads + 2 * handleSlot h)) with out := ⟨3, 0, 0, ((m.load who (slotAt c (handleSlot h))).load who o.ad).steps⟩ }) (m' := (m.load who (slotAt c (handleSlot h))).load who o.ad) ?_ (qw_load ..)), (Mem.eqv_load ..).trans (Mem.eqv_load ..), rfl, rfl, rfl⟩
  simp only [dropStep, drop1, Int.reduceEq, if_false, if_true, ob.ad, ob1.ho, if_neg hw, dropInvalid]
theorem drop_run {h s : Int} {own : Bool} {o : Ob} (ha : A.at' c h = some (s, o)) (hw : o.own = own) :
    ∃ n a' m', n ≤ 50 ∧ Ends (dropStep c who) (QW c) n (dropNew h own) m a' m' ∧ WF c (A.drop c s o) m' ∧ Cs a'.out 0 0 0 := by
  have h1 := drop_see hc wf (who := who) (own := own) ha
  obtain ⟨_, hs, h0, h2, ho, hg⟩ := at_some ha
  have hsl := hc.slot h0 (Int.le_of_lt h2)
  have ht := hc.t0; have hs0 := hc.s0; have hk0 := hc.k0; have hg1 := hc.g1
  have hdd : 6 + c.threads + 2 * c.slots + 3 * c.chunks = dat c := rfl
  have dl := hc.dat_lt
  obtain ⟨p1, p2, p3⟩ := hc.prod (i := c.chunks) (by omega) (Int.le_refl _)
  have ob := wf.obs _ o ho
  have og0 := ob.g0; have og1 := ob.g1
  obtain ⟨d1, d2⟩ := wf.obj_at hc ho
  obtain ⟨r1, r2, r3, r4⟩ := Ob.room_size ob.cl
  -- two loads
  have e2 : Mem.Eqv m ((m.load who (slotAt c s)).load who o.ad) := (Mem.eqv_load ..).trans (Mem.eqv_load ..)
  have wf1 := wf.eqv (Mem.eqv_load m who (slotAt c s))
  have wf2 := wf.eqv e2
  have ob1 := wf1.obs _ o ho
  have hw' : headOwn ((m.load who (slotAt c s)).val o.ad) = own := by rw [ob1.ho, hw]
  have q2 : QW c (m.load who (slotAt c s)) ((m.load who (slotAt c s)).load who o.ad) := qw_load ..
  have st2 : dropStep c who (drop1 h own (m.val (6 + c.threads + 2 * s))) (m.load who (slotAt c s)) =
      ({ drop1 h own (m.val (6 + c.threads + 2 * s)) with size := o.size, pc := 2 }, (m.load who (slotAt c s)).load who o.ad, false) := by
    simp only [dropStep, drop1, Int.reduceEq, if_false, if_true, ob.ad, hw', ob1.hs, ob.st]
  generalize (m.load who (slotAt c s)).load who o.ad = m2 at *
  -- the slot's word
  have oad := ob.ad; have ogn := ob.gn; have ost := ob.st
  generalize hX : (6 + c.threads + 2 * s : Int) = X at *
  have hslot : m2.val X = m.val X := e2.2 X
  have k2 : m2.okA X = true := wf2.ok (by omega) (by omega)
  generalize hw4 : putSlot 4 o.ad o.gen (i64 (slotVer (m.val X) + 1)) = w4
  obtain ⟨f1, f2, f3⟩ := slot_of 4 o.ad o.gen (i64 (slotVer (m.val X) + 1))
  rw [hw4] at f1 f2 f3
  rw [fit_in (by omega) (by omega) (by decide)] at f1
  rw [fit_in (by omega) (by omega) (by decide)] at f2
  rw [fit_in (by omega) (by omega) (by decide)] at f3
  have hcas : m2.casOk X (m.val X) = true := by rw [Mem.casOk_eq k2, hslot]; exact beq_self_eq_true _
  have st3 : dropStep c who { drop1 h own (m.val X) with size := o.size, pc := 2 } m2 =
      ({ drop1 h own (m.val X) with size := o.size, pc := 3, help := some (helpNew s w4 o.size) }, m2.cas who X (m.val X) w4, false) := by
    simp only [dropStep, drop1, Int.reduceEq, if_false, if_true, hs, hsl, oad, ogn, hw4, hcas]
  have v3 : ∀ b, (m2.cas who X (m.val X) w4).val b = if b = X then w4 else m2.val b := fun b => Mem.val_cas k2 hslot ..
  have l3 : (m2.cas who X (m.val X) w4).len = m2.len := Mem.len_cas ..
  have q3 : QW c m2 (m2.cas who X (m.val X) w4) := qw_cas k2 (by omega) hslot ..
  generalize m2.cas who X (m.val X) w4 = m3 at *
  -- its words
  obtain ⟨cell', m4, g1, g2, g3⟩ := help_cells hc (who := who) (s := s) (w := w4) (n := o.size) f2 rfl d1 (by omega) o.vs.length 0 0 m3 (Int.le_refl _) (by simp only [Ob.size]; omega) (by rw [l3]; exact wf2.len) (fun j hj hj' => by
    obtain ⟨i, rfl⟩ := Int.eq_ofNat_of_zero_le hj
    have hi : i < o.vs.length := by simp only [Ob.size] at hj'; omega
    rw [v3, if_neg (by omega), e2.2]
    exact (ob.cells i _ (List.getElem?_eq_getElem hi)).1)
  have g1' := Go.map (g := dropStep c who) (fun x : Help => ({ drop1 h own (m.val X) with size := o.size, pc := 3, help := some x } : Drop)) (fun a m a' m' hh => by
    simp only [dropStep, drop1, Int.reduceEq, if_false, if_true, hh, Bool.false_eq_true]) g1
  -- the slot's next life
  have k4 : m4.okA X = true := by rw [Mem.okA_iff, g2, l3, wf2.len]; omega
  have v4 : m4.val X = w4 := by rw [g3 X (by omega), v3, if_pos rfl]
  have hcas4 : m4.casOk X w4 = true := by rw [Mem.casOk_eq k4, v4]; exact beq_self_eq_true _
  have eg : i64 (o.gen + 1) = o.gen + 1 := i64_in' (by omega)
  generalize hnx : (if o.gen < c.gens then putSlot 0 0 (o.gen + 1) 0 else putSlot 3 0 o.gen 0) = next
  have sth : helpStep c who ⟨s, w4, o.size, o.size, cell', false, false⟩ m4 = (⟨s, w4, o.size, o.size, cell', false, true⟩, m4.cas who X w4 next, true) := by
    have : ¬ o.size < o.size := Int.lt_irrefl _
    simp only [helpStep, this, not_false_iff, if_true, f3, hsl, eg, hnx, hcas4]
  have st4 : dropStep c who { drop1 h own (m.val X) with size := o.size, pc := 3, help := some ⟨s, w4, o.size, o.size, cell', false, false⟩ } m4 =
      ({ drop1 h own (m.val X) with size := o.size, pc := 5, help := some ⟨s, w4, o.size, o.size, cell', false, true⟩, out := ⟨0, 0, 0, (m4.cas who X w4 next).whenAt X⟩ }, m4.cas who X w4 next, false) := by
    simp only [dropStep, drop1, Int.reduceEq, if_false, if_true, sth, hs, hsl]
  have v5 : ∀ b, (m4.cas who X w4 next).val b = if b = X then next else m4.val b := fun b => Mem.val_cas k4 v4 ..
  have l5 : (m4.cas who X w4 next).len = m.len := by rw [Mem.len_cas, g2, l3, e2.1]
  have q5 : QW c m4 (m4.cas who X w4 next) := qw_cas k4 (by omega) v4 ..
  have hst : slotState next = 0 ∨ slotState next = 3 := by
    rw [← hnx]
    split
    · left; rw [(slot_of 0 0 (o.gen + 1) 0).1]; decide
    · right; rw [(slot_of 3 0 o.gen 0).1]; decide
  have hgl : slotGen next ≤ o.gen + 1 := by
    rw [← hnx]
    split
    · rw [(slot_of 0 0 (o.gen + 1) 0).2.2, fit_in (by omega) (by omega) (by decide)]; omega
    · rw [(slot_of 3 0 o.gen 0).2.2, fit_in (by omega) (by omega) (by decide)]; omega
  have hgn : o.gen < c.gens → slotGen next = o.gen + 1 := fun hlt => by
    rw [← hnx, if_pos hlt, (slot_of 0 0 (o.gen + 1) 0).2.2, fit_in (by omega) (by omega) (by decide)]
  have wf5 : WF c (A.kill s) (m4.cas who X w4 next) := by
    refine wf.kill hc ho l5 ?_ ?_ fun b hb hb' => ?_
    · rw [hX, v5, if_pos rfl]; exact hst
    · rw [hX, v5, if_pos rfl]; exact hgl
    · rw [hX] at hb
      rw [v5, if_neg hb, g3 b (by omega), v3, if_neg hb, e2.2]
  generalize m4.cas who X w4 next = m5 at *
  -- the chunk's count
  obtain ⟨a1, a2, _⟩ := of_range (n := 0) hc d1 (by omega : o.ad < dat c + c.words * c.chunks)
  have eck := hc.chunk' a1 (Int.le_of_lt a2)
  obtain ⟨ci, hci⟩ : ∃ ci, ofAt c o.ad = ci := ⟨_, rfl⟩
  rw [hci] at a1 a2 eck
  have k5 : m5.okA (6 + c.threads + 2 * c.slots + 3 * ci + 1) = true := wf5.ok (by omega) (by omega)
  have wf6 : ∀ x, WF c (A.kill s) (m5.add who (6 + c.threads + 2 * c.slots + 3 * ci + 1) x) := fun x =>
    wf5.put hc (Mem.len_add ..) (fun b hb => by rw [Mem.val_add k5, if_neg hb]) (.inr (.inr ⟨ci, a1, a2, .inl rfl⟩))
  have q6 : ∀ x, QW c m5 (m5.add who (6 + c.threads + 2 * c.slots + 3 * ci + 1) x) := fun x => qw_add k5 (by omega) ..
  have hgen : handleGen h = o.gen := hg.symm
  have st5 : dropStep c who { drop1 h own (m.val X) with size := o.size, pc := 5, help := some ⟨s, w4, o.size, o.size, cell', false, true⟩, out := ⟨0, 0, 0, m5.whenAt X⟩ } m5 =
      ({ drop1 h own (m.val X) with size := o.size, pc := 6, help := some ⟨s, w4, o.size, o.size, cell', false, true⟩, out := ⟨0, 0, 0, m5.whenAt X⟩, give := some (giveNew s) },
        m5.add who (6 + c.threads + 2 * c.slots + 3 * ci + 1) (i64 (0 - roomOf (classOf o.size))), !(ltI o.gen c.gens)) := by
    simp only [dropStep, drop1, Int.reduceEq, if_false, if_true, hs, oad, hci, eck, hgen]
  have go := (((Go.step h1 (qw_load ..) (.one st2 q2)).trans (.one st3 q3)).trans g1').trans (.one st4 q5)
  by_cases hlt : o.gen < c.gens
  · have st5' := st5
    simp only [ltI, hlt, decide_true, Bool.not_true] at st5'
    have hval6 : ∀ x, (m5.add who (6 + c.threads + 2 * c.slots + 3 * ci + 1) x).val X = next := fun x => by rw [Mem.val_add k5, if_neg (by omega), v5, if_pos rfl]
    have hnfs : s ∉ A.fs := fun hm => by rw [(wf.fs s hm).2.1] at ho; cases ho
    obtain ⟨g', m7, e1, e3⟩ := give_run hc (wf6 (i64 (0 - roomOf (classOf o.size)))) (who := who) (s := s) h0 h2 (A.set_self s none) hnfs (by rw [hX, hval6, hgn hlt]; omega) (by rw [hX, hval6, hgn hlt]; omega)
    obtain ⟨x1, y1, z1, z2, z3⟩ := e1
    have z1' := Go.map (g := dropStep c who) (fun x : Give => ({ drop1 h own (m.val X) with size := o.size, pc := 6, help := some ⟨s, w4, o.size, o.size, cell', false, true⟩, out := ⟨0, 0, 0, m5.whenAt X⟩, give := some x } : Drop)) (fun a m a' m' hh => by
      simp only [dropStep, drop1, Int.reduceEq, if_false, hh]) z1
    have fin : Ends (dropStep c who) (QW c) _ (dropNew h own) m _ m7 := (go.trans (.one st5' (q6 _))).ends (⟨_, _, z1', by simp only [dropStep, drop1, Int.reduceEq, if_false, z2]; rfl, z3⟩)
    refine ⟨_, _, m7, ?_, fin, ?_, rfl, rfl, rfl⟩
    · simp only [Ob.size] at r4; omega
    · simp only [Ab.drop, if_pos hlt]; exact e3
  · have st5' := st5
    simp only [ltI, hlt, decide_false, Bool.not_false] at st5'
    refine ⟨_, _, _, ?_, go.ends (Ends.one st5' (q6 _)), ?_, rfl, rfl, rfl⟩
    · simp only [Ob.size] at r4; omega
    · simp only [Ab.drop, if_neg hlt]; exact wf6 _
end
end Go.Fl

/- An arena at rest: room for an object, an object made, alone. In plain Lean. -/
namespace Go.Fl
open Go Go.Sx
set_option linter.unusedVariables false
set_option linter.unusedSimpArgs false
set_option linter.unusedSectionVars false
section
variable {c : Cfg} {A : Ab} {m m' : Mem} {who : Int} (hc : CfgOK c) (wf : WF c A m)

def setF {α : Type} (f : Int → α) (i : Int) (x : α) : Int → α := fun j => if j = i then x else f j
theorem setF_self {α : Type} (f : Int → α) (i : Int) (x : α) : setF f i x i = x := if_pos rfl
theorem setF_ne {α : Type} (f : Int → α) {i j : Int} (x : α) (h : j ≠ i) : setF f i x j = f j := if_neg h

/-! ### words of chunks -/
include hc wf
theorem WF.out0 {a : Int} (ha : a < dat c) {s : Int} {o : Ob} (ho : A.ob s = some o) {y : Int} (hy : o.ad ≤ y) : y ≠ a := by
  have := wf.obj_at hc ho; omega
/-- a chunk's word is laid anew: it was free, or more of it is given out -/
theorem WF.chunk {j k u u0 : Int} (h0 : 0 ≤ j) (h1 : j < c.chunks) (hk : 0 ≤ k) (hk' : k ≤ 3) (hu : 0 ≤ u) (hu' : u ≤ c.words) (h00 : 0 ≤ u0) (hle : u0 ≤ u)
    (hold : A.ck j = none ∧ u0 = 0 ∨ A.ck j = some (k, u0)) (hl : m'.len = m.len) {st : Int}
    (hv : ∀ b, m'.val b = if b = 6 + c.threads + 2 * c.slots + 3 * j then putChunk 1 k u st else m.val b) : WF c { A with ck := setF A.ck j (some (k, u)) } m' := by
  have ht := hc.t0; have hs0 := hc.s0; have hk0 := hc.k0; have hs1 := hc.s1; have hw1 := hc.w1
  have hd : 6 + c.threads + 2 * c.slots + 3 * c.chunks = dat c := rfl
  have hne : ∀ b, b ≠ 6 + c.threads + 2 * c.slots + 3 * j → m'.val b = m.val b := fun b hb => by rw [hv, if_neg hb]
  obtain ⟨c1, c2, c3⟩ := chunk_of 1 k u st
  rw [fit_in (by omega) (by omega) (by decide)] at c1 c2 c3
  refine ⟨by rw [hl]; exact wf.len, fun t htm => ?_, wf.nd, ?_, wf.ch.keep fun t htm => ?_, fun t h2 h3 h4 => ?_, fun t q hq => ?_, wf.apart, fun i h2 h3 => ?_, fun k h2 h3 => ?_, fun t h2 h3 => by rw [hne _ (by omega)]; exact wf.gb t h2 h3⟩
  · have h5 := wf.fs t htm
    rw [hne _ (by omega)]; exact h5
  · rw [hne _ (by omega)]; exact wf.top
  · have h5 := wf.fs t htm
    exact hne _ (by omega)
  · rw [hne _ (by omega)]; exact wf.dead t h2 h3 h4
  · have h5 := wf.obs t q hq
    have h6 := wf.obj_at hc hq
    refine h5.keep (hne _ (by have := h5.s1; omega)) (fun y hy hy' => hne _ (by omega)) (fun i k' u' hk => ?_)
    by_cases hij : i = j
    · subst hij
      rcases hold with h | h
      · rw [h.1] at hk; cases hk
      · rw [h] at hk
        simp only [Option.some.injEq, Prod.mk.injEq] at hk
        obtain ⟨rfl, rfl⟩ := hk
        exact ⟨u, hle, setF_self ..⟩
    · exact ⟨u', Int.le_refl _, by rw [← hk]; exact setF_ne _ _ hij⟩
  · obtain ⟨p1, p2, p3⟩ := hc.prod h2 (Int.le_of_lt h3)
    have hcc := wf.cks i h2 h3
    by_cases hij : i = j
    · subst hij
      show CkOK c m' i (setF A.ck i (some (k, u)) i)
      rw [setF_self]
      refine ⟨?_, ⟨hk, hk', hu, hu'⟩, fun y hy hy' => ?_⟩
      · rw [hv, if_pos rfl]; exact ⟨c1, c2, c3⟩
      · rw [hne _ (by omega)]
        rcases hold with ⟨h, rfl⟩ | h
        · rw [h] at hcc; exact hcc.2 y (by omega) hy'
        · rw [h] at hcc; exact hcc.2.2 y (by omega) hy'
    · show CkOK c m' i (setF A.ck j (some (k, u)) i)
      rw [setF_ne _ _ hij]
      refine hcc.keep (hne _ (by omega)) (fun y hy _ => ?_)
      have hu0 : 0 ≤ usedOf (A.ck i) := used0 hcc
      exact hne _ (by omega)
  · rw [hne _ (by omega)]; exact wf.op k h2 h3
/-- another chunk is the open one -/
theorem WF.open' {k j : Int} (h0 : 0 ≤ j) (h1 : j ≤ c.chunks) (hk : 0 ≤ k) (hk' : k ≤ 3) (hl : m'.len = m.len) (hv : ∀ b, m'.val b = if b = 2 + k then j else m.val b) : WF c { A with op := setF A.op k j } m' := by
  have ht := hc.t0; have hs0 := hc.s0; have hk0 := hc.k0
  have hd : 6 + c.threads + 2 * c.slots + 3 * c.chunks = dat c := rfl
  have hne : ∀ b, b ≠ 2 + k → m'.val b = m.val b := fun b hb => by rw [hv, if_neg hb]
  refine ⟨by rw [hl]; exact wf.len, fun t htm => ?_, wf.nd, ?_, wf.ch.keep fun t htm => ?_, fun t h2 h3 h4 => ?_, fun t q hq => ?_, wf.apart, fun i h2 h3 => ?_, fun i h2 h3 => ?_, fun t h2 h3 => by rw [hne _ (by omega)]; exact wf.gb t h2 h3⟩
  · have h5 := wf.fs t htm
    rw [hne _ (by omega)]; exact h5
  · rw [hne _ (by omega)]; exact wf.top
  · have h5 := wf.fs t htm
    exact hne _ (by omega)
  · rw [hne _ (by omega)]; exact wf.dead t h2 h3 h4
  · have h5 := wf.obs t q hq
    have h6 := wf.obj_at hc hq
    exact h5.keep (hne _ (by have := h5.s0; omega)) (fun y hy hy' => hne _ (by omega)) (fun i k u hk => ⟨u, Int.le_refl _, hk⟩)
  · obtain ⟨p1, p2, p3⟩ := hc.prod h2 (Int.le_of_lt h3)
    have hcc := wf.cks i h2 h3
    refine hcc.keep (hne _ (by omega)) (fun y hy _ => ?_)
    have hu0 : 0 ≤ usedOf (A.ck i) := used0 hcc
    exact hne _ (by omega)
  · by_cases hik : i = k
    · subst hik
      show m'.val (2 + i) = setF A.op i j i ∧ _ ∧ _
      rw [hv, if_pos rfl, setF_self]
      exact ⟨rfl, by simp only [setF_self]; omega, by simp only [setF_self]; omega⟩
    · show m'.val (2 + i) = setF A.op k j i ∧ 0 ≤ setF A.op k j i ∧ setF A.op k j i ≤ c.chunks
      rw [hne _ (by omega), setF_ne _ _ hik]
      exact wf.op i h2 h3

/-- words were given out: of chunk j, from word u on -/
structure Given (c : Cfg) (A A' : Ab) (k j u : Int) : Prop where
  fs : A'.fs = A.fs
  ob : A'.ob = A.ob
  gb : A'.gb = A.gb
  j0 : 0 ≤ j
  j1 : j < c.chunks
  u0 : 0 ≤ u
  u1 : u + roomOf k ≤ c.words
  ck : A'.ck = setF A.ck j (some (k, u + roomOf k))
  op : (A.op k = j + 1 ∧ A.ck j = some (k, u) ∧ A'.op = A.op) ∨ (A.ck j = none ∧ u = 0 ∧ A'.op = setF A.op k (j + 1))
/-- the open chunk has room -/
def Fits (c : Cfg) (A : Ab) (k : Int) : Prop := ∃ u, A.ck (A.op k - 1) = some (k, u) ∧ 1 ≤ A.op k ∧ u + roomOf k ≤ c.words

def plc (k pc op at' w addr chunk : Int) : Place := ⟨k, pc, op, at', w, addr, chunk, false⟩
/-- the open chunk has room: three steps -/
theorem place_fit {k : Int} (hk : 0 ≤ k) (hk' : k ≤ 3) {j u : Int} (hop : A.op k = j + 1) (hck : A.ck j = some (k, u)) (hj : 0 ≤ j) (hfit : u + roomOf k ≤ c.words) (op at' w addr chunk : Int) :
    ∃ p' m', Ends (placeStep c who) (QW c) 2 (plc k 0 op at' w addr chunk) m p' m' ∧ p'.ok = true ∧ p'.addr = dat c + c.words * j + u ∧ p'.chunk = j ∧ WF c { A with ck := setF A.ck j (some (k, u + roomOf k)) } m' ∧
      ∀ b, b ≠ 6 + c.threads + 2 * c.slots + 3 * j → m'.val b = m.val b := by
  have ht := hc.t0; have hs0 := hc.s0; have hk0 := hc.k0; have hs1 := hc.s1; have hw1 := hc.w1; have ht1 := hc.t1; have hk1 := hc.k1
  have hd : 6 + c.threads + 2 * c.slots + 3 * c.chunks = dat c := rfl
  obtain ⟨o1, o2, o3⟩ := wf.op k hk hk'
  rw [hop] at o1 o2 o3
  have hj1 : j < c.chunks := by omega
  obtain ⟨p1, p2, p3⟩ := hc.prod hj (Int.le_of_lt hj1)
  have hcc := wf.cks j hj hj1
  rw [hck] at hcc
  obtain ⟨⟨s1, s2, s3⟩, ⟨_, _, u0, _⟩, _⟩ := hcc
  obtain ⟨r1, r2⟩ := room_le hk hk'
  have dl := hc.dat_lt
  have eo : openAt k = 2 + k := CfgOK.opn hk (by omega)
  have ec : chunkAt c j = 6 + c.threads + 2 * c.slots + 3 * j := hc.chunk hj (Int.le_of_lt hj1)
  have eb : baseAt c j = dat c + c.words * j := hc.base hj (Int.le_of_lt hj1)
  generalize hX : (6 + c.threads + 2 * c.slots + 3 * j : Int) = X at *
  have e1 : i64 (i64 (j + 1) - 1) = j := by rw [i64_in' (n := j + 1) (by omega), i64_in' (by omega)]; omega
  have e2 : i64 (u + roomOf k) = u + roomOf k := i64_in' (by omega)
  have e3 : i64 (dat c + c.words * j + u) = dat c + c.words * j + u := i64_in' (by omega)
  have k1 : ((m.load who (2 + k)).load who X).okA X = true := by rw [Mem.okA_of (Mem.len_load ..), Mem.okA_of (Mem.len_load ..)]; exact wf.ok (by omega) (by omega)
  have k2 : ((m.load who (2 + k)).load who X).val X = m.val X := by rw [Mem.val_load, Mem.val_load]
  have st1 : placeStep c who (plc k 0 op at' w addr chunk) m = (plc k 1 (j + 1) j w addr chunk, m.load who (2 + k), false) := by
    simp only [placeStep, plc, if_true, eo, o1, e1]
    rw [if_neg (by omega)]
  have st2 : placeStep c who (plc k 1 (j + 1) j w addr chunk) (m.load who (2 + k)) = (plc k 2 (j + 1) j (m.val X) addr chunk, (m.load who (2 + k)).load who X, false) := by
    simp only [placeStep, plc, Int.reduceEq, if_false, if_true, ec, Mem.val_load, s1, s2, s3, e2]
    rw [if_pos ⟨trivial, trivial, by omega⟩]
  have hcas : ((m.load who (2 + k)).load who X).casOk X (m.val X) = true := by rw [Mem.casOk_eq k1, k2]; exact beq_self_eq_true _
  have st3 : placeStep c who (plc k 2 (j + 1) j (m.val X) addr chunk) ((m.load who (2 + k)).load who X) =
      (⟨k, 0, j + 1, j, m.val X, dat c + c.words * j + u, j, true⟩, ((m.load who (2 + k)).load who X).cas who X (m.val X) (putChunk 1 k (u + roomOf k) (chunkStamp (m.val X))), true) := by
    simp only [placeStep, plc, Int.reduceEq, if_false, if_true, ec, s1, s2, s3, e2, hcas, eb, e3]
  have hval : ∀ b, (((m.load who (2 + k)).load who X).cas who X (m.val X) (putChunk 1 k (u + roomOf k) (chunkStamp (m.val X)))).val b = if b = X then putChunk 1 k (u + roomOf k) (chunkStamp (m.val X)) else m.val b := fun b => by
    rw [Mem.val_cas k1 k2, Mem.val_load, Mem.val_load]
  refine ⟨_, _, Ends.step st1 (qw_load ..) (Ends.step st2 (qw_load ..) (Ends.one st3 (qw_cas k1 (by omega) k2 ..))), rfl, rfl, rfl, ?_, fun b hb => by rw [hval, if_neg hb]⟩
  refine wf.chunk hc hj hj1 hk hk' (by omega) hfit u0 (by omega) (.inr hck) ?_ (st := chunkStamp (m.val X)) fun b => by rw [hval, hX]
  rw [Mem.len_cas, Mem.len_load, Mem.len_load]
/-- a free chunk is looked for, from j on -/
theorem place_scan {k : Int} (hk : 0 ≤ k) (hk' : k ≤ 3) : ∀ (r : Nat) (j : Int) (m : Mem) (w addr chunk : Int), WF c A m → 0 ≤ j → j + r = c.chunks → 0 < r →
    (∃ n p' m', n ≤ r ∧ Ends (placeStep c who) (QW c) n (plc k 3 (A.op k) j w addr chunk) m p' m' ∧ p'.ok = false ∧ Mem.Eqv m m' ∧ ∀ i, j ≤ i → i < c.chunks → A.ck i ≠ none) ∨
    (∃ n p' m' i A', n ≤ r + 5 ∧ Ends (placeStep c who) (QW c) n (plc k 3 (A.op k) j w addr chunk) m p' m' ∧ p'.ok = true ∧ p'.addr = dat c + c.words * i ∧ p'.chunk = i ∧ Given c A A' k i 0 ∧ A.ck i = none ∧ WF c A' m' ∧
      ∀ b, dat c ≤ b → m'.val b = m.val b)
  | 0, j, m, w, addr, chunk, wf, hj, hr, h0 => absurd h0 (by omega)
  | r + 1, j, m, w, addr, chunk, wf, hj, hr, h0 => by
    have ht := hc.t0; have hs0 := hc.s0; have hk0 := hc.k0; have hs1 := hc.s1; have hw1 := hc.w1; have hw0 := hc.w0; have ht1 := hc.t1; have hk1 := hc.k1
    have hd : 6 + c.threads + 2 * c.slots + 3 * c.chunks = dat c := rfl
    have hj1 : j < c.chunks := by omega
    obtain ⟨p1, p2, p3⟩ := hc.prod hj (Int.le_of_lt hj1)
    obtain ⟨r1, r2⟩ := room_le hk hk'
    have hcc := wf.cks j hj hj1
    have ec : chunkAt c j = 6 + c.threads + 2 * c.slots + 3 * j := hc.chunk hj (Int.le_of_lt hj1)
    cases hck : A.ck j with
    | some x =>
      obtain ⟨kk, u⟩ := x
      rw [hck] at hcc
      have s1 := hcc.1.1
      have e1 : i64 (j + 1) = j + 1 := i64_in' (by omega)
      by_cases hlast : j + 1 < c.chunks
      · have st : placeStep c who (plc k 3 (A.op k) j w addr chunk) m = (plc k 3 (A.op k) (j + 1) (m.val (6 + c.threads + 2 * c.slots + 3 * j)) addr chunk, m.load who (6 + c.threads + 2 * c.slots + 3 * j), false) := by
          simp only [placeStep, plc, Int.reduceEq, if_false, if_true, ec, s1, placeOn, e1, ltI, hlast, decide_true, Bool.not_true]
        rcases place_scan hk hk' r (j + 1) (m.load who (6 + c.threads + 2 * c.slots + 3 * j)) _ addr chunk (wf.eqv (Mem.eqv_load ..)) (by omega) (by omega) (by omega) with
          ⟨n, p', m', g1, g2, g3, g4, g5⟩ | ⟨n, p', m', i, A', g1, g2, g3, g4, g5, g6, g7, g8, g9⟩
        · refine .inl ⟨n + 1, p', m', by omega, Ends.step st (qw_load ..) g2, g3, (Mem.eqv_load ..).trans g4, fun i h1 h2 => ?_⟩
          by_cases hij : i = j
          · subst hij; rw [hck]; simp
          · exact g5 i (by omega) h2
        · exact .inr ⟨n + 1, p', m', i, A', by omega, Ends.step st (qw_load ..) g2, g3, g4, g5, g6, g7, g8, fun b hb => by rw [g9 b hb, Mem.val_load]⟩
      · have st : placeStep c who (plc k 3 (A.op k) j w addr chunk) m = (plc k 3 (A.op k) (j + 1) (m.val (6 + c.threads + 2 * c.slots + 3 * j)) addr chunk, m.load who (6 + c.threads + 2 * c.slots + 3 * j), true) := by
          simp only [placeStep, plc, Int.reduceEq, if_false, if_true, ec, s1, placeOn, e1, ltI, hlast, decide_false, Bool.not_false]
        refine .inl ⟨0, _, _, by omega, Ends.one st (qw_load ..), rfl, Mem.eqv_load .., fun i h1 h2 => ?_⟩
        have : i = j := by omega
        subst this; rw [hck]; simp
    | none =>
      rw [hck] at hcc
      have s1 := hcc.1
      obtain ⟨o1, o2, o3⟩ := wf.op k hk hk'
      have eo : openAt k = 2 + k := CfgOK.opn hk (by omega)
      have e1 : u64 (i64 (j + 1)) = j + 1 := by rw [i64_in' (by omega), u64_mod]; omega
      refine .inr ?_
      generalize hX : (6 + c.threads + 2 * c.slots + 3 * j : Int) = X at *
      have st1 : placeStep c who (plc k 3 (A.op k) j w addr chunk) m = (plc k 4 (A.op k) j (m.val X) addr chunk, m.load who X, false) := by
        simp only [placeStep, plc, Int.reduceEq, if_false, if_true, ec, s1]
      have k1 : (m.load who X).okA X = true := by rw [Mem.okA_of (Mem.len_load ..)]; exact wf.ok (by omega) (by omega)
      have k2 : (m.load who X).val X = m.val X := Mem.val_load ..
      have hcas : (m.load who X).casOk X (m.val X) = true := by rw [Mem.casOk_eq k1, k2]; exact beq_self_eq_true _
      have st2 : placeStep c who (plc k 4 (A.op k) j (m.val X) addr chunk) (m.load who X) = (plc k 5 (A.op k) j (m.val X) addr chunk, (m.load who X).cas who X (m.val X) (putChunk 1 k 0 (i64 (chunkStamp (m.val X) + 1))), false) := by
        simp only [placeStep, plc, Int.reduceEq, if_false, if_true, ec, hcas, freshW]
      have v2 : ∀ b, ((m.load who X).cas who X (m.val X) (putChunk 1 k 0 (i64 (chunkStamp (m.val X) + 1)))).val b = if b = X then putChunk 1 k 0 (i64 (chunkStamp (m.val X) + 1)) else m.val b := fun b => by rw [Mem.val_cas k1 k2, Mem.val_load]
      have wf2 := wf.chunk hc (u := 0) (u0 := 0) hj hj1 hk hk' (by omega) (by omega) (by omega) (by omega) (.inl ⟨hck, rfl⟩) (m' := (m.load who X).cas who X (m.val X) (putChunk 1 k 0 (i64 (chunkStamp (m.val X) + 1))))
        (by rw [Mem.len_cas, Mem.len_load]) (st := i64 (chunkStamp (m.val X) + 1)) (fun b => by rw [v2, hX])
      have q2 : QW c (m.load who X) ((m.load who X).cas who X (m.val X) (putChunk 1 k 0 (i64 (chunkStamp (m.val X) + 1)))) := qw_cas k1 (by omega) k2 ..
      generalize (m.load who X).cas who X (m.val X) (putChunk 1 k 0 (i64 (chunkStamp (m.val X) + 1))) = m2 at *
      have k3 : m2.okA (2 + k) = true := wf2.ok (by omega) (by omega)
      have k4 : m2.val (2 + k) = A.op k := (wf2.op k hk hk').1
      have hcas2 : m2.casOk (2 + k) (A.op k) = true := by rw [Mem.casOk_eq k3, k4]; exact beq_self_eq_true _
      have st3 : placeStep c who (plc k 5 (A.op k) j (m.val X) addr chunk) m2 = (plc k 0 (A.op k) j (m.val X) addr chunk, m2.cas who (2 + k) (A.op k) (j + 1), false) := by
        simp only [placeStep, plc, Int.reduceEq, if_false, if_true, eo, hcas2, e1]
      have v3 : ∀ b, (m2.cas who (2 + k) (A.op k) (j + 1)).val b = if b = 2 + k then j + 1 else m2.val b := fun b => Mem.val_cas k3 k4 ..
      have wf3 := wf2.open' hc (j := j + 1) (by omega) (by omega) hk hk' (m' := m2.cas who (2 + k) (A.op k) (j + 1)) (by rw [Mem.len_cas]) v3
      have q3 : QW c m2 (m2.cas who (2 + k) (A.op k) (j + 1)) := qw_cas k3 (by omega) k4 ..
      generalize m2.cas who (2 + k) (A.op k) (j + 1) = m3 at *
      obtain ⟨p', m', f1, f2, f3, f4, f5, f6⟩ := place_fit hc wf3 (who := who) hk hk' (j := j) (u := 0) (setF_self ..) (setF_self ..) hj (by omega) (A.op k) j (m.val X) addr chunk
      rw [Int.zero_add] at f5
      refine ⟨2 + 1 + 1 + 1, p', m', j, { fs := A.fs, ob := A.ob, ck := setF (setF A.ck j (some (k, 0))) j (some (k, roomOf k)), op := setF A.op k (j + 1), gb := A.gb }, by omega, Ends.step st1 (qw_load ..) (Ends.step st2 q2 (Ends.step st3 q3 f1)), f2, by rw [f3]; omega, f4,
        ⟨rfl, rfl, rfl, hj, hj1, by omega, by omega, ?_, .inr ⟨hck, rfl, rfl⟩⟩, hck, f5, fun b hb => ?_⟩
      · rw [Int.zero_add]
        funext i
        simp only [setF]
        split <;> rfl
      · rw [f6 b (by omega), v3, if_neg (by omega), v2, if_neg (by omega)]
omit wf in
theorem place_run (wf : WF c A m) {k : Int} (hk : 0 ≤ k) (hk' : k ≤ 3) :
    (∃ n p' m', n ≤ 80 ∧ Ends (placeStep c who) (QW c) n (placeNew k) m p' m' ∧ p'.ok = false ∧ Mem.Eqv m m' ∧ (∀ i, 0 ≤ i → i < c.chunks → A.ck i ≠ none) ∧ ¬ Fits c A k) ∨
    (∃ n p' m' i u A', n ≤ 80 ∧ Ends (placeStep c who) (QW c) n (placeNew k) m p' m' ∧ p'.ok = true ∧ p'.addr = dat c + c.words * i + u ∧ p'.chunk = i ∧ Given c A A' k i u ∧ (A.ck i = none → ¬ Fits c A k) ∧ WF c A' m' ∧ ∀ b, dat c ≤ b → m'.val b = m.val b) := by
  have ht := hc.t0; have hs0 := hc.s0; have hk0 := hc.k0; have hs1 := hc.s1; have hw1 := hc.w1; have hw0 := hc.w0; have ht1 := hc.t1; have hk1 := hc.k1
  have hd : 6 + c.threads + 2 * c.slots + 3 * c.chunks = dat c := rfl
  obtain ⟨o1, o2, o3⟩ := wf.op k hk hk'
  obtain ⟨r1, r2⟩ := room_le hk hk'
  have eo : openAt k = 2 + k := CfgOK.opn hk (by omega)
  have scan : ∀ (m2 : Mem) (w addr chunk : Int) (n0 : Nat), n0 ≤ 2 → Go (placeStep c who) (QW c) n0 (placeNew k) m (plc k 3 (A.op k) 0 w addr chunk) m2 → Mem.Eqv m m2 → ¬ Fits c A k →
      (∃ n p' m', n ≤ 80 ∧ Ends (placeStep c who) (QW c) n (placeNew k) m p' m' ∧ p'.ok = false ∧ Mem.Eqv m m' ∧ (∀ i, 0 ≤ i → i < c.chunks → A.ck i ≠ none) ∧ ¬ Fits c A k) ∨
      (∃ n p' m' i u A', n ≤ 80 ∧ Ends (placeStep c who) (QW c) n (placeNew k) m p' m' ∧ p'.ok = true ∧ p'.addr = dat c + c.words * i + u ∧ p'.chunk = i ∧ Given c A A' k i u ∧ (A.ck i = none → ¬ Fits c A k) ∧ WF c A' m' ∧ ∀ b, dat c ≤ b → m'.val b = m.val b) := by
    intro m2 w addr chunk n0 hn0 hgo heq hnf
    rcases place_scan hc wf (who := who) hk hk' c.chunks.toNat 0 m2 w addr chunk (wf.eqv heq) (by omega) (by omega) (by omega) with ⟨n, p', m', g1, g2, g3, g4, g5⟩ | ⟨n, p', m', i, A', g1, g2, g3, g4, g5, g6, g7, g8, g9⟩
    · exact .inl ⟨n0 + n, p', m', by omega, hgo.ends g2, g3, heq.trans g4, g5, hnf⟩
    · exact .inr ⟨n0 + n, p', m', i, 0, A', by omega, hgo.ends g2, g3, by rw [g4]; omega, g5, g6, fun _ => hnf, g8, fun b hb => by rw [g9 b hb, heq.2]⟩
  by_cases h0 : A.op k = 0
  · have st1 : placeStep c who (placeNew k) m = (plc k 3 (A.op k) 0 0 0 0, m.load who (2 + k), false) := by
      simp only [placeStep, placeNew, if_true, eo, o1, h0, plc]
      rw [if_pos (by decide)]
    refine scan _ _ _ _ 1 (by omega) (.one st1 (qw_load ..)) (Mem.eqv_load ..) ?_
    rintro ⟨u, _, h2, _⟩
    omega
  · have hj0 : 0 ≤ A.op k - 1 := by omega
    have hj1 : A.op k - 1 < c.chunks := by omega
    have hcc := wf.cks _ hj0 hj1
    have ec : chunkAt c (A.op k - 1) = 6 + c.threads + 2 * c.slots + 3 * (A.op k - 1) := hc.chunk hj0 (Int.le_of_lt hj1)
    by_cases hfit : Fits c A k
    · obtain ⟨u, f1, f2, f3⟩ := hfit
      obtain ⟨p', m', g1, g2, g3, g4, g5, g6⟩ := place_fit hc wf (who := who) hk hk' (j := A.op k - 1) (u := u) (by omega) f1 hj0 f3 0 0 0 0 0
      rw [f1] at hcc
      refine .inr ⟨2, p', m', A.op k - 1, u, { A with ck := setF A.ck (A.op k - 1) (some (k, u + roomOf k)) }, by omega, g1, g2, g3, g4, ⟨rfl, rfl, rfl, hj0, hj1, hcc.2.1.2.2.1, f3, rfl, .inl ⟨by omega, f1, rfl⟩⟩, fun h => (by rw [f1] at h; cases h), g5, fun b hb => g6 b (by omega)⟩
    · have e1 : i64 (i64 (A.op k) - 1) = A.op k - 1 := by rw [i64_in' (n := A.op k) (by omega), i64_in' (by omega)]
      have st1 : placeStep c who (placeNew k) m = (plc k 1 (A.op k) (A.op k - 1) 0 0 0, m.load who (2 + k), false) := by
        simp only [placeStep, placeNew, if_true, eo, o1, e1, plc]
        rw [if_neg (by omega)]
      refine scan ((m.load who (2 + k)).load who (6 + c.threads + 2 * c.slots + 3 * (A.op k - 1))) (m.val (6 + c.threads + 2 * c.slots + 3 * (A.op k - 1))) 0 0 2 (by omega) (.step st1 (qw_load ..) (.one ?_ (qw_load ..))) ((Mem.eqv_load ..).trans (Mem.eqv_load ..)) hfit
      simp only [placeStep, plc, Int.reduceEq, if_false, if_true, ec, Mem.val_load]
      rw [if_neg]
      rintro ⟨q1, q2, q3⟩
      cases hck : A.ck (A.op k - 1) with
      | none => rw [hck] at hcc; rw [hcc.1] at q1; cases q1
      | some x =>
        obtain ⟨kk, u⟩ := x
        rw [hck] at hcc
        obtain ⟨⟨s1, s2, s3⟩, ⟨_, _, u0, u1⟩, _⟩ := hcc
        rw [s2] at q2; subst q2
        rw [s3, i64_in' (by omega)] at q3
        exact hfit ⟨u, hck, by omega, by omega⟩
end
end Go.Fl
