/- Each step of a list touches one word at most: what it comes to, in plain Lean. -/
import Derived.Test.YtdkjpjiljplahaaGreatMq
import Derived.Test.YtdkjpjiljplahaaGreatMk
namespace Go.Fl
open Go Go.Sx
set_option linter.unusedVariables false
set_option linter.unusedSimpArgs false
set_option linter.unusedSectionVars false

theorem ltT (a b : Int) : ltI a b = true ↔ a < b := by simp [ltI]
theorem ltF (a b : Int) : ltI a b = false ↔ ¬ a < b := by simp [ltI]
section
variable {c : Cfg} {A A' : Ab} {m m' : Mem} {who : Int} {head K : Int} {ns : List (Int × Int)} (hc : CfgOK c) (hw0 : 0 ≤ who) (hw1 : who < c.threads)
include hc hw0 hw1
/-- whatever is asked of a list -/
theorem op_any (li : LI c A head ns) (rs : RS c A who m) (hK0 : 0 ≤ K) (hK1 : K < 1073741824) {kd : Int} (hkd : kd = 1 ∨ kd = 2 ∨ kd = 3) :
    ∃ n l' m' A' ns', n ≤ 300 * ns.length + 2000 ∧ Ends (listStep c who) (QA c who) n (listNew kd K head) m l' m' ∧ RS c A' who m' ∧ LI c A' head ns' ∧ ∀ q ∈ ns', q.2 = K ∨ q ∈ ns := by
  rcases hkd with rfl | rfl | rfl
  · obtain ⟨n, l', m', h1, h2, h3, _⟩ := op_has hc hw0 hw1 (K := K) li rs
    exact ⟨n, l', m', A, ns, by omega, h2, h3, li, fun q hq => .inr hq⟩
  · obtain ⟨n, l', m', A', h1, h2, h3, h4⟩ := op_add hc hw0 hw1 (K := K) li rs hK0 hK1
    rcases h4 with ⟨_, rfl, _⟩ | ⟨_, rfl, _⟩ | ⟨_, rfl, _⟩ | ⟨_, ⟨ns', hn, hj⟩, _⟩
    · exact ⟨n, l', m', _, ns, h1, h2, h3, li, fun q hq => .inr hq⟩
    · exact ⟨n, l', m', _, ns, h1, h2, h3, li, fun q hq => .inr hq⟩
    · exact ⟨n, l', m', _, ns, h1, h2, h3, li, fun q hq => .inr hq⟩
    · refine ⟨n, l', m', _, ns', h1, h2, h3, hj.li, fun q hq => ?_⟩
      obtain ⟨pre, post, rfl, rfl, _⟩ := hj.split
      rcases List.mem_append.1 hq with h | h
      · exact .inr (List.mem_append_left _ h)
      · rcases List.mem_cons.1 h with rfl | h
        · exact .inl rfl
        · exact .inr (List.mem_append_right _ h)
  · obtain ⟨n, l', m', A', h1, h2, h3, _, h4⟩ := op_remove hc hw0 hw1 (K := K) li rs
    rcases h4 with ⟨_, rfl, _⟩ | ⟨_, ⟨ns', hn, hj⟩, _⟩
    · exact ⟨n, l', m', _, ns, h1, h2, h3, li, fun q hq => .inr hq⟩
    · refine ⟨n, l', m', _, ns', h1, h2, h3, hj.li, fun q hq => .inr ?_⟩
      obtain ⟨pre, post, rfl, rfl⟩ := hj.split
      rcases List.mem_append.1 hq with h | h
      · exact List.mem_append_left _ h
      · exact List.mem_append_right _ (List.mem_cons_of_mem _ h)
end

/-- what a step may not do -/
def chkBad (c : Cfg) (m m' : Mem) : Bool := ltI (i64 (m.steps + 1)) m'.steps || (ltI m.steps m'.steps && !(ltI (ofAt c m'.la) 0) && (m'.val (pinAt 0) == 0))
/-- a list's step-function, watched -/
def runChk (c : Cfg) (who : Int) : Nat → Lst → Mem → Bool × Lst × Mem
  | 0, l, m => (true, l, m)
  | k + 1, l, m => let r := listStep c who l m; if chkBad c m r.2.1 then (false, r.1, r.2.1) else if r.2.2 then (true, r.1, r.2.1) else runChk c who k r.1 r.2.1
theorem chk_ok {c : Cfg} {m m' : Mem} (h : QA c 0 m m') (h0 : 0 ≤ m.steps) (h1 : m.steps < 1000000) : chkBad c m m' = false ∧ 0 ≤ m'.steps ∧ m'.steps ≤ m.steps + 1 := by
  have hp : pinAt 0 = 6 + 0 := by decide
  have e1 : i64 (m.steps + 1) = m.steps + 1 := i64_in' (by omega)
  simp only [chkBad, hp, e1]
  unfold QA at h
  rw [e1] at h
  rcases h with h | ⟨h2, h3⟩
  · rw [h]
    refine ⟨?_, h0, by omega⟩
    rw [(ltF _ _).2 (by omega), (ltF m.steps m.steps).2 (by omega)]; rfl
  · refine ⟨?_, by omega, by omega⟩
    rw [(ltF _ _).2 (by omega)]
    rcases h3 with h3 | h3
    · rw [(ltT _ _).2 h3]; simp
    · rw [show (m'.val (6 + 0) == 0) = false from beq_eq_false_iff_ne.2 h3]; simp
theorem chk_of_ends {c : Cfg} {n k : Nat} {l l' : Lst} {m m' : Mem} (h : Ends (listStep c 0) (QA c 0) n l m l' m') (hk : n < k) (h0 : 0 ≤ m.steps) (h1 : m.steps + n < 1000000) :
    runChk c 0 k l m = (true, l', m') ∧ 0 ≤ m'.steps ∧ m'.steps ≤ m.steps + n + 1 := by
  obtain ⟨a1, m1, h2, h3, h4⟩ := h
  induction h2 generalizing k with
  | refl a m0 =>
    obtain ⟨k, rfl⟩ : ∃ j, k = j + 1 := ⟨k - 1, by omega⟩
    obtain ⟨e1, e2, e3⟩ := chk_ok h4 h0 (by omega)
    refine ⟨?_, e2, by omega⟩
    simp only [runChk, h3, e1, Bool.false_eq_true, if_false, if_true]
  | step hs q r ih =>
    obtain ⟨k, rfl⟩ : ∃ j, k = j + 1 := ⟨k - 1, by omega⟩
    obtain ⟨e1, e2, e3⟩ := chk_ok q h0 (by omega)
    obtain ⟨g1, g2, g3⟩ := ih (k := k) (by omega) e2 (by omega) h3 h4
    refine ⟨?_, g2, by omega⟩
    simp only [runChk, hs, e1, Bool.false_eq_true, if_false]
    exact g1

/-- what is asked, and of which key -/
def kindW (k : Int) : Int := i64 (1 + (i64 (k.tmod 3 + 3)).tmod 3)
def keyW (k : Int) : Int := ibits .and k 7
theorem kindW_ok (k : Int) : kindW k = 1 ∨ kindW k = 2 ∨ kindW k = 3 := by
  have h1 : -2 ≤ k.tmod 3 ∧ k.tmod 3 ≤ 2 := by
    have := Int.tmod_lt_of_pos k (by decide : (0:Int) < 3)
    have := Int.lt_tmod_of_pos k (by decide : (0:Int) < 3)
    omega
  have e : i64 (k.tmod 3 + 3) = k.tmod 3 + 3 := i64_in' (by omega)
  have h2 : 0 ≤ (k.tmod 3 + 3).tmod 3 ∧ (k.tmod 3 + 3).tmod 3 < 3 := ⟨Int.tmod_nonneg _ (by omega), Int.tmod_lt_of_pos _ (by decide)⟩
  unfold kindW
  rw [e, i64_in' (by omega)]
  omega
/-- one thing is asked: is all well, what are the words -/
def stepOne (c : Cfg) (head kind key : Int) (m : Mem) : Bool × Mem :=
  if listCheck (kindW kind) (keyW key) then let r := runChk c 0 5000 (listNew (kindW kind) (keyW key) head) m; (r.1, r.2.2) else (false, m)
/-- one by one, from number i on -/
def stepsGo (c : Cfg) (head : Int) (g : List Int) : Nat → Int → Mem → Bool × Mem
  | 0, _, m => (true, m)
  | k + 1, i, m =>
    if ltI i ((g.length / 3 : Nat) : Int) then
      let r := stepOne c head (g.getD (i.toNat * 3 + 1) 0) (g.getD (i.toNat * 3 + 2) 0) m
      if r.1 then stepsGo c head g k (i64 (i + 1)) r.2 else r
    else (true, m)

theorem srt_len : ∀ (ns : List (Int × Int)) (a : Int), ns.Pairwise (fun x y => x.2 < y.2) → (∀ q ∈ ns, a ≤ q.2 ∧ q.2 < 8) → (ns.length : Int) ≤ max 0 (8 - a)
  | [], a, _, _ => by simp; omega
  | q :: r, a, h, hb => by
    have h1 := hb q (List.mem_cons_self ..)
    have h2 := srt_len r (a + 1) (List.pairwise_cons.1 h).2 fun x hx => by
      have := (List.pairwise_cons.1 h).1 x hx
      have := hb x (List.mem_cons_of_mem _ hx)
      omega
    simp only [List.length_cons]
    omega

theorem keyW_ok (k : Int) : 0 ≤ keyW k ∧ keyW k < 8 := by
  unfold keyW
  rw [iand, show ((7 : Int) % 18446744073709551616).toNat = 2 ^ 3 - 1 from rfl, Nat.and_two_pow_sub_one_eq_mod, i64_in' (by omega)]
  omega
section
variable {c : Cfg} (hc : CfgOK c)
include hc
theorem one_ok {A : Ab} {m : Mem} {head : Int} {ns : List (Int × Int)} (li : LI c A head ns) (rs : RS c A 0 m) (hk : ∀ q ∈ ns, 0 ≤ q.2 ∧ q.2 < 8) (h0 : 0 ≤ m.steps) (h1 : m.steps < 900000) (kind key : Int) :
    ∃ A' m' ns', stepOne c head kind key m = (true, m') ∧ LI c A' head ns' ∧ RS c A' 0 m' ∧ (∀ q ∈ ns', 0 ≤ q.2 ∧ q.2 < 8) ∧ 0 ≤ m'.steps ∧ m'.steps ≤ m.steps + 5000 := by
  have hlen := srt_len ns 0 li.srt hk
  have ht := hc.t0
  obtain ⟨k0, k1⟩ := keyW_ok key
  obtain ⟨n, l', m', A', ns', e1, e2, e3, e4, e5⟩ := op_any hc (Int.le_refl 0) (by omega) (K := keyW key) li rs k0 (by omega) (kindW_ok kind)
  have hl : listCheck (kindW kind) (keyW key) = true := by
    have := kindW_ok kind
    simp only [listCheck, Bool.and_eq_true, Bool.not_eq_true', ltF, ltT]
    omega
  obtain ⟨f1, f2, f3⟩ := chk_of_ends (k := 5000) e2 (by omega) h0 (by omega)
  refine ⟨A', m', ns', by simp only [stepOne, hl, if_true, f1], e4, e3, fun q hq => ?_, f2, by omega⟩
  rcases e5 q hq with h | h
  · omega
  · exact hk q h
theorem go_ok {head : Int} (g : List Int) : ∀ (k : Nat) (i : Int) {A : Ab} {m : Mem} {ns : List (Int × Int)}, LI c A head ns → RS c A 0 m → (∀ q ∈ ns, 0 ≤ q.2 ∧ q.2 < 8) → 0 ≤ m.steps → m.steps + 5000 * k < 900000 →
    ∃ m', stepsGo c head g k i m = (true, m') ∧ m'.val 6 = 0
  | 0, i, A, m, ns, li, rs, hk, h0, h1 => ⟨m, rfl, rs.pin⟩
  | k + 1, i, A, m, ns, li, rs, hk, h0, h1 => by
    simp only [stepsGo]
    split
    · obtain ⟨A', m', ns', e1, e2, e3, e4, e5, e6⟩ := one_ok hc li rs hk h0 (by omega) (g.getD (i.toNat * 3 + 1) 0) (g.getD (i.toNat * 3 + 2) 0)
      rw [e1]
      simp only [if_true]
      exact go_ok g k _ e2 e3 e4 e5 (by omega)
    · exact ⟨m, rfl, rs.pin⟩
end
theorem cfg30 : CfgOK (cfgA 4 30 12 40) := by constructor <;> decide
theorem begun30_steps : (decide ((begunD 30).2.steps < 10000) && decide (0 ≤ (begunD 30).2.steps) && (begunD 30).1.e == 0) = true := by kernel_rfl
theorem steps_law (g : List Int) : (begunD 30).1.e = 0 ∧ ∃ m', stepsGo (cfgA 4 30 12 40) (begunD 30).1.handle g 12 0 (begunD 30).2 = (true, m') ∧ m'.val (pinAt 0) = 0 := by
  obtain ⟨A, m', d, h1, h2, h3, h4, _⟩ := begun_ok cfg30
  have hs := begun30_steps
  have e : begunD 30 = (d, m') := h1
  rw [e] at hs ⊢
  simp only [Bool.and_eq_true, decide_eq_true_eq] at hs
  obtain ⟨⟨hs1, hs2⟩, _⟩ := hs
  refine ⟨h2, go_ok cfg30 g (m := m') 12 0 h4 h3 (fun q hq => by cases hq) hs2 (by omega)⟩
end Go.Fl

/- ListSteps: its loops, what they come to. -/
namespace Go.Fl
open Go Go.Sx Go.Proofs

/-- what is added: a list's steps, watched; one thing asked behind the other -/
instance extS : ExtF := {
  x1 := fun _ a => a, x2 := fun _ a _ => a
  x3 := fun s a b c => match s with
    | 200 => .u (.pair (.bool (runChk (gcw a).1 (gcw a).2 (5000 - c.toInt).toNat (glm b).1 (glm b).2).1) (.lm (runChk (gcw a).1 (gcw a).2 (5000 - c.toInt).toNat (glm b).1 (glm b).2).2.1 (runChk (gcw a).1 (gcw a).2 (5000 - c.toInt).toNat (glm b).1 (glm b).2).2.2))
    | _ => a
  x4 := fun s a b c d => match s with
    | 200 => .u (.pair (.bool (stepsGo (gcw a).1 (gcw a).2 c.toInts (12 - d.toInt).toNat d.toInt (gmem b)).1) (.mem (stepsGo (gcw a).1 (gcw a).2 c.toInts (12 - d.toInt).toNat d.toInt (gmem b)).2))
    | _ => a
  ks := fun _ => [], ok := fun _ _ h => by cases h }

def wantK : List RK := [.int .i64, .int .i64, .int .i64]
/-- an environment of somebody number 0; its words are piece m -/
def envZ (c : E) (m : Nat) : Blk := .cells (cfgE c ++ [.ptr m (.int 0), .int .i64 (.int 0)])
def slV (id : Nat) (off g cap : E) : SV := .one (.c (.slice id off (.o1 (.lenR 3) g) cap))
/-- variables: the arena's shape, where the records begin, the records, what their block is, the capacity, where the list begins -/
def inB : Blk := .inp wantK (.var 1) (.var 2) (.var 3)
def chkE : E := .f3 200 (.f2 60 (.var 0) (.int 0)) (.f2 62 (.var 8) (.var 7)) (.var 9)
def chkTm (l : List (Nat × SV)) : List SV := tms 98 ([(0, slV 4 (.var 1) (.var 2) (.var 4)), (3, pE 1), (4, uE (.var 5)), (6, iE (.var 6))] ++ l)
def lChk : LoopT :=
  ⟨chkTm [(7, pE 2), (9, iE (.var 9))], [(1, envZ (.var 0) 3), (2, .res 8 (.var 8)), (3, .res 0 (.var 7)), (4, inB)], 5,
   [(.exit 2, ⟨chkTm [], [(1, envZ (.var 0) 3), (3, .res 0 (.f1 108 (.f1 98 chkE))), (4, inB)], 5, [(.f1 97 chkE, true)]⟩),
    (.ret, ⟨tms 98 [(2, bE (.bool false))], [], 5, [(.f1 97 chkE, false)]⟩),
    (.fail, ⟨[], [], 5, [(.o2 .lss (.var 9) (.int 0), true)]⟩)]⟩
def stpE : E := .f4 200 (.f2 60 (.var 0) (.var 5)) (.var 6) (.var 2) (.var 7)
def stpTm (l : List (Nat × SV)) : List SV := tms 98 ([(0, slV 4 (.var 1) (.var 2) (.var 4)), (3, pE 1), (4, uE (.var 5))] ++ l)
def lStp : LoopT :=
  ⟨stpTm [(6, iE (.var 7))], [(1, envZ (.var 0) 3), (3, .res 0 (.var 6)), (4, inB)], 5,
   [(.exit 0, ⟨stpTm [], [(1, envZ (.var 0) 3), (3, .res 0 (.f1 98 stpE)), (4, inB)], 5, [(.f1 97 stpE, true)]⟩),
    (.ret, ⟨tms 98 [(2, bE (.bool false))], [], 5, [(.f1 97 stpE, false)]⟩),
    (.fail, ⟨[], [], 5, [(.o2 .lss (.var 7) (.int 0), true)]⟩)]⟩
def tl14s : List (Nat × Tmpl) := (30, gAwake.t) :: tl13
theorem tl14s_ok : AllT tl14s := allT_cons gAwake_ok tl13_ok
def tm14s : CH := tmOf tl14s
theorem tm14s_ok : CallOK SG prog tm14s := tmOf_ok tl14s_ok
def pOut : List Nat := [1, 1, 1, 0, 1, 0]
def pIn : List Nat := [1, 1, 1, 0, 1, 0, 0, 1, 0, 0, 1, 1, 1, 0]
def pRel : List Nat := [1, 0, 0, 1, 1, 1, 0]
def lhIn : LH := lhOf [(pRel, lChk)]
def lhOut : LH := lhOf [(pOut, lStp)]
end Go.Fl

/- Rounds of ListSteps' loops, as they are carried out: printed. -/
namespace Go.Fl
open Go Go.Sx

def lChk_0 : St := ⟨[.one (.c (.slice 4 (.var 1) (.o1 (.lenR 3) (.var 2)) (.var 4))), .any, .one (.c (.bool (.bool false))), .one (.c (.ptr 1 (.int 0))), .one (.c (xu 5)), .any, .one (.c (xi 6)), .one (.c (.ptr 2 (.int 0))), .any, .one (.c (xi 9)), .one (.c (.int .i64 (.f1 41 (.var 7)))), .one (.c (.bool (.f4 45 (.var 8) (.var 7) (.var 0) (.int 0)))), .any, .any, .any, .any, .any, .any, .any, .any, .any, .any, .any, .any, .any, .any, .any, .any, .any, .any, .any, .any, .any, .any, .any, .any, .any, .any, .any, .any, .any, .any, .any, .any, .any, .any, .any, .any, .any, .any, .any, .any, .any, .any, .any, .one (.c (xi 9)), .one (.c (.bool (.o2 .lss (.var 9) (.int 5000)))), .any, .any, .one (.agg [.int .i64 (.f1 0 (.var 0)), .int .i64 (.f1 1 (.var 0)), .int .i64 (.f1 2 (.var 0)), .int .i64 (.f1 3 (.var 0)), .int .i64 (.f1 4 (.var 0)), .int .i64 (.f1 5 (.var 0)), .int .i64 (.f1 6 (.var 0)), .ptr 3 (.int 0), .int .i64 (.int 0)]), .one (.c (.int .i64 (.f1 41 (.var 7)))), .one (.c (.ptr 2 (.int 0))), .one (.agg [.int .i64 (.f1 0 (.var 0)), .int .i64 (.f1 1 (.var 0)), .int .i64 (.f1 2 (.var 0)), .int .i64 (.f1 3 (.var 0)), .int .i64 (.f1 4 (.var 0)), .int .i64 (.f1 5 (.var 0)), .int .i64 (.f1 6 (.var 0)), .ptr 3 (.int 0), .int .i64 (.int 0)]), .one (.c (.bool (.f4 45 (.var 8) (.var 7) (.var 0) (.int 0)))), .one (.agg [.int .i64 (.f1 0 (.var 0)), .int .i64 (.f1 1 (.var 0)), .int .i64 (.f1 2 (.var 0)), .int .i64 (.f1 3 (.var 0)), .int .i64 (.f1 4 (.var 0)), .int .i64 (.f1 5 (.var 0)), .int .i64 (.f1 6 (.var 0)), .ptr 3 (.int 0), .int .i64 (.int 0)]), .one (.c (.int .i64 (.f1 41 (.f4 44 (.var 8) (.var 7) (.var 0) (.int 0))))), .one (.c (.int .i64 (.f1 41 (.var 7)))), .one (.c (.int .i64 (.o2 (.arith .add .i64) (.f1 41 (.var 7)) (.int 1)))), .one (.c (.bool (.o2 .lss (.o2 (.arith .add .i64) (.f1 41 (.var 7)) (.int 1)) (.f1 41 (.f4 44 (.var 8) (.var 7) (.var 0) (.int 0)))))), .one (.c (.bool (.o2 .lss (.o2 (.arith .add .i64) (.f1 41 (.var 7)) (.int 1)) (.f1 41 (.f4 44 (.var 8) (.var 7) (.var 0) (.int 0)))))), .tup [], .tup [], .tup [], .tup [], .tup [], .tup [], .tup [], .tup [], .tup [], .tup [], .tup [], .tup [], .tup [], .tup [], .tup [], .tup [], .tup [], .tup [], .tup [], .tup [], .tup [], .one (.c (.bool (.bool true))), .any, .any, .any, .any, .any, .any], [(4, .inp [(.int .i64), (.int .i64), (.int .i64)] (.var 1) (.var 2) (.var 3)), (3, .res 0 (.f4 44 (.var 8) (.var 7) (.var 0) (.int 0))), (2, .res 8 (.f4 43 (.var 8) (.var 7) (.var 0) (.int 0))), (1, .cells [.int .i64 (.f1 0 (.var 0)), .int .i64 (.f1 1 (.var 0)), .int .i64 (.f1 2 (.var 0)), .int .i64 (.f1 3 (.var 0)), .int .i64 (.f1 4 (.var 0)), .int .i64 (.f1 5 (.var 0)), .int .i64 (.f1 6 (.var 0)), .ptr 3 (.int 0), .int .i64 (.int 0)])], 33, [((.o2 .lss (.o2 (.arith .add .i64) (.f1 41 (.var 7)) (.int 1)) (.f1 41 (.f4 44 (.var 8) (.var 7) (.var 0) (.int 0)))), true), ((.o2 .lss (.var 9) (.int 5000)), true)]⟩
def lChk_1 : St := ⟨[.one (.c (.slice 4 (.var 1) (.o1 (.lenR 3) (.var 2)) (.var 4))), .any, .any, .one (.c (.ptr 1 (.int 0))), .one (.c (xu 5)), .any, .one (.c (xi 6)), .one (.c (.ptr 2 (.int 0))), .any, .one (.c (xi 9)), .one (.c (.int .i64 (.f1 41 (.var 7)))), .one (.c (.bool (.f4 45 (.var 8) (.var 7) (.var 0) (.int 0)))), .any, .any, .any, .any, .any, .any, .any, .any, .any, .any, .any, .any, .any, .any, .any, .any, .any, .any, .any, .any, .any, .any, .any, .any, .any, .any, .any, .any, .any, .any, .any, .any, .any, .any, .any, .any, .any, .any, .any, .any, .any, .any, .any, .one (.c (xi 9)), .one (.c (.bool (.o2 .lss (.var 9) (.int 5000)))), .any, .any, .one (.agg [.int .i64 (.f1 0 (.var 0)), .int .i64 (.f1 1 (.var 0)), .int .i64 (.f1 2 (.var 0)), .int .i64 (.f1 3 (.var 0)), .int .i64 (.f1 4 (.var 0)), .int .i64 (.f1 5 (.var 0)), .int .i64 (.f1 6 (.var 0)), .ptr 3 (.int 0), .int .i64 (.int 0)]), .one (.c (.int .i64 (.f1 41 (.var 7)))), .one (.c (.ptr 2 (.int 0))), .one (.agg [.int .i64 (.f1 0 (.var 0)), .int .i64 (.f1 1 (.var 0)), .int .i64 (.f1 2 (.var 0)), .int .i64 (.f1 3 (.var 0)), .int .i64 (.f1 4 (.var 0)), .int .i64 (.f1 5 (.var 0)), .int .i64 (.f1 6 (.var 0)), .ptr 3 (.int 0), .int .i64 (.int 0)]), .one (.c (.bool (.f4 45 (.var 8) (.var 7) (.var 0) (.int 0)))), .one (.agg [.int .i64 (.f1 0 (.var 0)), .int .i64 (.f1 1 (.var 0)), .int .i64 (.f1 2 (.var 0)), .int .i64 (.f1 3 (.var 0)), .int .i64 (.f1 4 (.var 0)), .int .i64 (.f1 5 (.var 0)), .int .i64 (.f1 6 (.var 0)), .ptr 3 (.int 0), .int .i64 (.int 0)]), .one (.c (.int .i64 (.f1 41 (.f4 44 (.var 8) (.var 7) (.var 0) (.int 0))))), .one (.c (.int .i64 (.f1 41 (.var 7)))), .one (.c (.int .i64 (.o2 (.arith .add .i64) (.f1 41 (.var 7)) (.int 1)))), .one (.c (.bool (.o2 .lss (.o2 (.arith .add .i64) (.f1 41 (.var 7)) (.int 1)) (.f1 41 (.f4 44 (.var 8) (.var 7) (.var 0) (.int 0)))))), .one (.c (.bool (.o2 .lss (.o2 (.arith .add .i64) (.f1 41 (.var 7)) (.int 1)) (.f1 41 (.f4 44 (.var 8) (.var 7) (.var 0) (.int 0)))))), .one (.agg [.int .i64 (.f1 0 (.var 0)), .int .i64 (.f1 1 (.var 0)), .int .i64 (.f1 2 (.var 0)), .int .i64 (.f1 3 (.var 0)), .int .i64 (.f1 4 (.var 0)), .int .i64 (.f1 5 (.var 0)), .int .i64 (.f1 6 (.var 0)), .ptr 3 (.int 0), .int .i64 (.int 0)]), .one (.c (.int .i64 (.f1 41 (.f4 44 (.var 8) (.var 7) (.var 0) (.int 0))))), .one (.c (.int .i64 (.f1 41 (.var 7)))), .one (.c (.bool (.o2 .lss (.f1 41 (.var 7)) (.f1 41 (.f4 44 (.var 8) (.var 7) (.var 0) (.int 0)))))), .one (.c (.bool (.o2 .lss (.f1 41 (.var 7)) (.f1 41 (.f4 44 (.var 8) (.var 7) (.var 0) (.int 0)))))), .one (.c (.ptr 1 (.int 0))), .one (.agg [.int .i64 (.f1 0 (.var 0)), .int .i64 (.f1 1 (.var 0)), .int .i64 (.f1 2 (.var 0)), .int .i64 (.f1 3 (.var 0)), .int .i64 (.f1 4 (.var 0)), .int .i64 (.f1 5 (.var 0)), .int .i64 (.f1 6 (.var 0))]), .one (.c (.ptr 1 (.int 7))), .one (.c (.ptr 3 (.int 0))), .one (.agg [.int .i64 (.f1 42 (.f4 44 (.var 8) (.var 7) (.var 0) (.int 0))), .int .i64 (.f1 43 (.f4 44 (.var 8) (.var 7) (.var 0) (.int 0))), .bool (.f1 44 (.f4 44 (.var 8) (.var 7) (.var 0) (.int 0)))]), .one (.c (.int .i64 (.f1 42 (.f4 44 (.var 8) (.var 7) (.var 0) (.int 0))))), .one (.c (.int .i64 (.f2 3 (.var 0) (.f1 42 (.f4 44 (.var 8) (.var 7) (.var 0) (.int 0)))))), .one (.c (.bool (.o1 .not (.o2 .lss (.f2 3 (.var 0) (.f1 42 (.f4 44 (.var 8) (.var 7) (.var 0) (.int 0)))) (.int 0))))), .one (.c (.bool (.o1 .not (.o2 .lss (.f2 3 (.var 0) (.f1 42 (.f4 44 (.var 8) (.var 7) (.var 0) (.int 0)))) (.int 0))))), .one (.c (.bool (.o1 .not (.o2 .lss (.f2 3 (.var 0) (.f1 42 (.f4 44 (.var 8) (.var 7) (.var 0) (.int 0)))) (.int 0))))), .tup [], .tup [], .tup [], .tup [], .tup [], .one (.c (.bool (.bool false))), .one (.c (.bool (.bool false))), .one (.c (.bool (.f4 45 (.var 8) (.var 7) (.var 0) (.int 0)))), .any, .any, .any, .any, .any], [(4, .inp [(.int .i64), (.int .i64), (.int .i64)] (.var 1) (.var 2) (.var 3)), (3, .res 0 (.f4 44 (.var 8) (.var 7) (.var 0) (.int 0))), (2, .res 8 (.f4 43 (.var 8) (.var 7) (.var 0) (.int 0))), (1, .cells [.int .i64 (.f1 0 (.var 0)), .int .i64 (.f1 1 (.var 0)), .int .i64 (.f1 2 (.var 0)), .int .i64 (.f1 3 (.var 0)), .int .i64 (.f1 4 (.var 0)), .int .i64 (.f1 5 (.var 0)), .int .i64 (.f1 6 (.var 0)), .ptr 3 (.int 0), .int .i64 (.int 0)])], 33, [((.f4 45 (.var 8) (.var 7) (.var 0) (.int 0)), true), ((.o2 .lss (.f2 3 (.var 0) (.f1 42 (.f4 44 (.var 8) (.var 7) (.var 0) (.int 0)))) (.int 0)), true), ((.o2 .lss (.f1 41 (.var 7)) (.f1 41 (.f4 44 (.var 8) (.var 7) (.var 0) (.int 0)))), true), ((.o2 .lss (.o2 (.arith .add .i64) (.f1 41 (.var 7)) (.int 1)) (.f1 41 (.f4 44 (.var 8) (.var 7) (.var 0) (.int 0)))), false), ((.o2 .lss (.var 9) (.int 5000)), true)]⟩
def lChk_2 : St := ⟨[.one (.c (.slice 4 (.var 1) (.o1 (.lenR 3) (.var 2)) (.var 4))), .any, .any, .one (.c (.ptr 1 (.int 0))), .one (.c (xu 5)), .any, .one (.c (xi 6)), .one (.c (.ptr 2 (.int 0))), .any, .one (.c (.int .i64 (.o2 (.arith .add .i64) (.var 9) (.int 1)))), .one (.c (.int .i64 (.f1 41 (.var 7)))), .one (.c (.bool (.f4 45 (.var 8) (.var 7) (.var 0) (.int 0)))), .any, .any, .any, .any, .any, .any, .any, .any, .any, .any, .any, .any, .any, .any, .any, .any, .any, .any, .any, .any, .any, .any, .any, .any, .any, .any, .any, .any, .any, .any, .any, .any, .any, .any, .any, .any, .any, .any, .any, .any, .any, .any, .any, .one (.c (xi 9)), .one (.c (.bool (.o2 .lss (.var 9) (.int 5000)))), .one (.c (xi 9)), .one (.c (.int .i64 (.o2 (.arith .add .i64) (.var 9) (.int 1)))), .one (.agg [.int .i64 (.f1 0 (.var 0)), .int .i64 (.f1 1 (.var 0)), .int .i64 (.f1 2 (.var 0)), .int .i64 (.f1 3 (.var 0)), .int .i64 (.f1 4 (.var 0)), .int .i64 (.f1 5 (.var 0)), .int .i64 (.f1 6 (.var 0)), .ptr 3 (.int 0), .int .i64 (.int 0)]), .one (.c (.int .i64 (.f1 41 (.var 7)))), .one (.c (.ptr 2 (.int 0))), .one (.agg [.int .i64 (.f1 0 (.var 0)), .int .i64 (.f1 1 (.var 0)), .int .i64 (.f1 2 (.var 0)), .int .i64 (.f1 3 (.var 0)), .int .i64 (.f1 4 (.var 0)), .int .i64 (.f1 5 (.var 0)), .int .i64 (.f1 6 (.var 0)), .ptr 3 (.int 0), .int .i64 (.int 0)]), .one (.c (.bool (.f4 45 (.var 8) (.var 7) (.var 0) (.int 0)))), .one (.agg [.int .i64 (.f1 0 (.var 0)), .int .i64 (.f1 1 (.var 0)), .int .i64 (.f1 2 (.var 0)), .int .i64 (.f1 3 (.var 0)), .int .i64 (.f1 4 (.var 0)), .int .i64 (.f1 5 (.var 0)), .int .i64 (.f1 6 (.var 0)), .ptr 3 (.int 0), .int .i64 (.int 0)]), .one (.c (.int .i64 (.f1 41 (.f4 44 (.var 8) (.var 7) (.var 0) (.int 0))))), .one (.c (.int .i64 (.f1 41 (.var 7)))), .one (.c (.int .i64 (.o2 (.arith .add .i64) (.f1 41 (.var 7)) (.int 1)))), .one (.c (.bool (.o2 .lss (.o2 (.arith .add .i64) (.f1 41 (.var 7)) (.int 1)) (.f1 41 (.f4 44 (.var 8) (.var 7) (.var 0) (.int 0)))))), .one (.c (.bool (.o2 .lss (.o2 (.arith .add .i64) (.f1 41 (.var 7)) (.int 1)) (.f1 41 (.f4 44 (.var 8) (.var 7) (.var 0) (.int 0)))))), .one (.agg [.int .i64 (.f1 0 (.var 0)), .int .i64 (.f1 1 (.var 0)), .int .i64 (.f1 2 (.var 0)), .int .i64 (.f1 3 (.var 0)), .int .i64 (.f1 4 (.var 0)), .int .i64 (.f1 5 (.var 0)), .int .i64 (.f1 6 (.var 0)), .ptr 3 (.int 0), .int .i64 (.int 0)]), .one (.c (.int .i64 (.f1 41 (.f4 44 (.var 8) (.var 7) (.var 0) (.int 0))))), .one (.c (.int .i64 (.f1 41 (.var 7)))), .one (.c (.bool (.o2 .lss (.f1 41 (.var 7)) (.f1 41 (.f4 44 (.var 8) (.var 7) (.var 0) (.int 0)))))), .one (.c (.bool (.o2 .lss (.f1 41 (.var 7)) (.f1 41 (.f4 44 (.var 8) (.var 7) (.var 0) (.int 0)))))), .one (.c (.ptr 1 (.int 0))), .one (.agg [.int .i64 (.f1 0 (.var 0)), .int .i64 (.f1 1 (.var 0)), .int .i64 (.f1 2 (.var 0)), .int .i64 (.f1 3 (.var 0)), .int .i64 (.f1 4 (.var 0)), .int .i64 (.f1 5 (.var 0)), .int .i64 (.f1 6 (.var 0))]), .one (.c (.ptr 1 (.int 7))), .one (.c (.ptr 3 (.int 0))), .one (.agg [.int .i64 (.f1 42 (.f4 44 (.var 8) (.var 7) (.var 0) (.int 0))), .int .i64 (.f1 43 (.f4 44 (.var 8) (.var 7) (.var 0) (.int 0))), .bool (.f1 44 (.f4 44 (.var 8) (.var 7) (.var 0) (.int 0)))]), .one (.c (.int .i64 (.f1 42 (.f4 44 (.var 8) (.var 7) (.var 0) (.int 0))))), .one (.c (.int .i64 (.f2 3 (.var 0) (.f1 42 (.f4 44 (.var 8) (.var 7) (.var 0) (.int 0)))))), .one (.c (.bool (.o1 .not (.o2 .lss (.f2 3 (.var 0) (.f1 42 (.f4 44 (.var 8) (.var 7) (.var 0) (.int 0)))) (.int 0))))), .one (.c (.bool (.o1 .not (.o2 .lss (.f2 3 (.var 0) (.f1 42 (.f4 44 (.var 8) (.var 7) (.var 0) (.int 0)))) (.int 0))))), .one (.c (.bool (.o1 .not (.o2 .lss (.f2 3 (.var 0) (.f1 42 (.f4 44 (.var 8) (.var 7) (.var 0) (.int 0)))) (.int 0))))), .tup [], .tup [], .tup [], .tup [], .tup [], .one (.c (.bool (.bool false))), .one (.c (.bool (.bool false))), .one (.c (.bool (.f4 45 (.var 8) (.var 7) (.var 0) (.int 0)))), .any, .any, .any, .any, .any], [(4, .inp [(.int .i64), (.int .i64), (.int .i64)] (.var 1) (.var 2) (.var 3)), (3, .res 0 (.f4 44 (.var 8) (.var 7) (.var 0) (.int 0))), (2, .res 8 (.f4 43 (.var 8) (.var 7) (.var 0) (.int 0))), (1, .cells [.int .i64 (.f1 0 (.var 0)), .int .i64 (.f1 1 (.var 0)), .int .i64 (.f1 2 (.var 0)), .int .i64 (.f1 3 (.var 0)), .int .i64 (.f1 4 (.var 0)), .int .i64 (.f1 5 (.var 0)), .int .i64 (.f1 6 (.var 0)), .ptr 3 (.int 0), .int .i64 (.int 0)])], 33, [((.f4 45 (.var 8) (.var 7) (.var 0) (.int 0)), false), ((.o2 .lss (.f2 3 (.var 0) (.f1 42 (.f4 44 (.var 8) (.var 7) (.var 0) (.int 0)))) (.int 0)), true), ((.o2 .lss (.f1 41 (.var 7)) (.f1 41 (.f4 44 (.var 8) (.var 7) (.var 0) (.int 0)))), true), ((.o2 .lss (.o2 (.arith .add .i64) (.f1 41 (.var 7)) (.int 1)) (.f1 41 (.f4 44 (.var 8) (.var 7) (.var 0) (.int 0)))), false), ((.o2 .lss (.var 9) (.int 5000)), true)]⟩
def lChk_3 : St := ⟨[.one (.c (.slice 4 (.var 1) (.o1 (.lenR 3) (.var 2)) (.var 4))), .any, .one (.c (.bool (.bool false))), .one (.c (.ptr 1 (.int 0))), .one (.c (xu 5)), .any, .one (.c (xi 6)), .one (.c (.ptr 2 (.int 0))), .any, .one (.c (xi 9)), .one (.c (.int .i64 (.f1 41 (.var 7)))), .one (.c (.bool (.f4 45 (.var 8) (.var 7) (.var 0) (.int 0)))), .any, .any, .any, .any, .any, .any, .any, .any, .any, .any, .any, .any, .any, .any, .any, .any, .any, .any, .any, .any, .any, .any, .any, .any, .any, .any, .any, .any, .any, .any, .any, .any, .any, .any, .any, .any, .any, .any, .any, .any, .any, .any, .any, .one (.c (xi 9)), .one (.c (.bool (.o2 .lss (.var 9) (.int 5000)))), .any, .any, .one (.agg [.int .i64 (.f1 0 (.var 0)), .int .i64 (.f1 1 (.var 0)), .int .i64 (.f1 2 (.var 0)), .int .i64 (.f1 3 (.var 0)), .int .i64 (.f1 4 (.var 0)), .int .i64 (.f1 5 (.var 0)), .int .i64 (.f1 6 (.var 0)), .ptr 3 (.int 0), .int .i64 (.int 0)]), .one (.c (.int .i64 (.f1 41 (.var 7)))), .one (.c (.ptr 2 (.int 0))), .one (.agg [.int .i64 (.f1 0 (.var 0)), .int .i64 (.f1 1 (.var 0)), .int .i64 (.f1 2 (.var 0)), .int .i64 (.f1 3 (.var 0)), .int .i64 (.f1 4 (.var 0)), .int .i64 (.f1 5 (.var 0)), .int .i64 (.f1 6 (.var 0)), .ptr 3 (.int 0), .int .i64 (.int 0)]), .one (.c (.bool (.f4 45 (.var 8) (.var 7) (.var 0) (.int 0)))), .one (.agg [.int .i64 (.f1 0 (.var 0)), .int .i64 (.f1 1 (.var 0)), .int .i64 (.f1 2 (.var 0)), .int .i64 (.f1 3 (.var 0)), .int .i64 (.f1 4 (.var 0)), .int .i64 (.f1 5 (.var 0)), .int .i64 (.f1 6 (.var 0)), .ptr 3 (.int 0), .int .i64 (.int 0)]), .one (.c (.int .i64 (.f1 41 (.f4 44 (.var 8) (.var 7) (.var 0) (.int 0))))), .one (.c (.int .i64 (.f1 41 (.var 7)))), .one (.c (.int .i64 (.o2 (.arith .add .i64) (.f1 41 (.var 7)) (.int 1)))), .one (.c (.bool (.o2 .lss (.o2 (.arith .add .i64) (.f1 41 (.var 7)) (.int 1)) (.f1 41 (.f4 44 (.var 8) (.var 7) (.var 0) (.int 0)))))), .one (.c (.bool (.o2 .lss (.o2 (.arith .add .i64) (.f1 41 (.var 7)) (.int 1)) (.f1 41 (.f4 44 (.var 8) (.var 7) (.var 0) (.int 0)))))), .one (.agg [.int .i64 (.f1 0 (.var 0)), .int .i64 (.f1 1 (.var 0)), .int .i64 (.f1 2 (.var 0)), .int .i64 (.f1 3 (.var 0)), .int .i64 (.f1 4 (.var 0)), .int .i64 (.f1 5 (.var 0)), .int .i64 (.f1 6 (.var 0)), .ptr 3 (.int 0), .int .i64 (.int 0)]), .one (.c (.int .i64 (.f1 41 (.f4 44 (.var 8) (.var 7) (.var 0) (.int 0))))), .one (.c (.int .i64 (.f1 41 (.var 7)))), .one (.c (.bool (.o2 .lss (.f1 41 (.var 7)) (.f1 41 (.f4 44 (.var 8) (.var 7) (.var 0) (.int 0)))))), .one (.c (.bool (.o2 .lss (.f1 41 (.var 7)) (.f1 41 (.f4 44 (.var 8) (.var 7) (.var 0) (.int 0)))))), .one (.c (.ptr 1 (.int 0))), .one (.agg [.int .i64 (.f1 0 (.var 0)), .int .i64 (.f1 1 (.var 0)), .int .i64 (.f1 2 (.var 0)), .int .i64 (.f1 3 (.var 0)), .int .i64 (.f1 4 (.var 0)), .int .i64 (.f1 5 (.var 0)), .int .i64 (.f1 6 (.var 0))]), .one (.c (.ptr 1 (.int 7))), .one (.c (.ptr 3 (.int 0))), .one (.agg [.int .i64 (.f1 42 (.f4 44 (.var 8) (.var 7) (.var 0) (.int 0))), .int .i64 (.f1 43 (.f4 44 (.var 8) (.var 7) (.var 0) (.int 0))), .bool (.f1 44 (.f4 44 (.var 8) (.var 7) (.var 0) (.int 0)))]), .one (.c (.int .i64 (.f1 42 (.f4 44 (.var 8) (.var 7) (.var 0) (.int 0))))), .one (.c (.int .i64 (.f2 3 (.var 0) (.f1 42 (.f4 44 (.var 8) (.var 7) (.var 0) (.int 0)))))), .one (.c (.bool (.o1 .not (.o2 .lss (.f2 3 (.var 0) (.f1 42 (.f4 44 (.var 8) (.var 7) (.var 0) (.int 0)))) (.int 0))))), .one (.c (.bool (.o1 .not (.o2 .lss (.f2 3 (.var 0) (.f1 42 (.f4 44 (.var 8) (.var 7) (.var 0) (.int 0)))) (.int 0))))), .one (.c (.bool (.o1 .not (.o2 .lss (.f2 3 (.var 0) (.f1 42 (.f4 44 (.var 8) (.var 7) (.var 0) (.int 0)))) (.int 0))))), .one (.c (.ptr 1 (.int 7))), .one (.c (.ptr 3 (.int 0))), .one (.c (.int .i64 (.int 6))), .one (.c (.int .u64 (.f2 20 (.f4 44 (.var 8) (.var 7) (.var 0) (.int 0)) (.int 6)))), .one (.c (.bool (.o2 .eql (.f2 20 (.f4 44 (.var 8) (.var 7) (.var 0) (.int 0)) (.int 6)) (.int 0)))), .one (.c (.bool (.o2 .eql (.f2 20 (.f4 44 (.var 8) (.var 7) (.var 0) (.int 0)) (.int 6)) (.int 0)))), .one (.c (.bool (.o2 .eql (.f2 20 (.f4 44 (.var 8) (.var 7) (.var 0) (.int 0)) (.int 6)) (.int 0)))), .any, .any, .any, .any, .any, .any], [(4, .inp [(.int .i64), (.int .i64), (.int .i64)] (.var 1) (.var 2) (.var 3)), (3, .res 0 (.f4 44 (.var 8) (.var 7) (.var 0) (.int 0))), (2, .res 8 (.f4 43 (.var 8) (.var 7) (.var 0) (.int 0))), (1, .cells [.int .i64 (.f1 0 (.var 0)), .int .i64 (.f1 1 (.var 0)), .int .i64 (.f1 2 (.var 0)), .int .i64 (.f1 3 (.var 0)), .int .i64 (.f1 4 (.var 0)), .int .i64 (.f1 5 (.var 0)), .int .i64 (.f1 6 (.var 0)), .ptr 3 (.int 0), .int .i64 (.int 0)])], 33, [((.o2 .eql (.f2 20 (.f4 44 (.var 8) (.var 7) (.var 0) (.int 0)) (.int 6)) (.int 0)), true), ((.o2 .lss (.f2 3 (.var 0) (.f1 42 (.f4 44 (.var 8) (.var 7) (.var 0) (.int 0)))) (.int 0)), false), ((.o2 .lss (.f1 41 (.var 7)) (.f1 41 (.f4 44 (.var 8) (.var 7) (.var 0) (.int 0)))), true), ((.o2 .lss (.o2 (.arith .add .i64) (.f1 41 (.var 7)) (.int 1)) (.f1 41 (.f4 44 (.var 8) (.var 7) (.var 0) (.int 0)))), false), ((.o2 .lss (.var 9) (.int 5000)), true)]⟩
def lChk_4 : St := ⟨[.one (.c (.slice 4 (.var 1) (.o1 (.lenR 3) (.var 2)) (.var 4))), .any, .any, .one (.c (.ptr 1 (.int 0))), .one (.c (xu 5)), .any, .one (.c (xi 6)), .one (.c (.ptr 2 (.int 0))), .any, .one (.c (xi 9)), .one (.c (.int .i64 (.f1 41 (.var 7)))), .one (.c (.bool (.f4 45 (.var 8) (.var 7) (.var 0) (.int 0)))), .any, .any, .any, .any, .any, .any, .any, .any, .any, .any, .any, .any, .any, .any, .any, .any, .any, .any, .any, .any, .any, .any, .any, .any, .any, .any, .any, .any, .any, .any, .any, .any, .any, .any, .any, .any, .any, .any, .any, .any, .any, .any, .any, .one (.c (xi 9)), .one (.c (.bool (.o2 .lss (.var 9) (.int 5000)))), .any, .any, .one (.agg [.int .i64 (.f1 0 (.var 0)), .int .i64 (.f1 1 (.var 0)), .int .i64 (.f1 2 (.var 0)), .int .i64 (.f1 3 (.var 0)), .int .i64 (.f1 4 (.var 0)), .int .i64 (.f1 5 (.var 0)), .int .i64 (.f1 6 (.var 0)), .ptr 3 (.int 0), .int .i64 (.int 0)]), .one (.c (.int .i64 (.f1 41 (.var 7)))), .one (.c (.ptr 2 (.int 0))), .one (.agg [.int .i64 (.f1 0 (.var 0)), .int .i64 (.f1 1 (.var 0)), .int .i64 (.f1 2 (.var 0)), .int .i64 (.f1 3 (.var 0)), .int .i64 (.f1 4 (.var 0)), .int .i64 (.f1 5 (.var 0)), .int .i64 (.f1 6 (.var 0)), .ptr 3 (.int 0), .int .i64 (.int 0)]), .one (.c (.bool (.f4 45 (.var 8) (.var 7) (.var 0) (.int 0)))), .one (.agg [.int .i64 (.f1 0 (.var 0)), .int .i64 (.f1 1 (.var 0)), .int .i64 (.f1 2 (.var 0)), .int .i64 (.f1 3 (.var 0)), .int .i64 (.f1 4 (.var 0)), .int .i64 (.f1 5 (.var 0)), .int .i64 (.f1 6 (.var 0)), .ptr 3 (.int 0), .int .i64 (.int 0)]), .one (.c (.int .i64 (.f1 41 (.f4 44 (.var 8) (.var 7) (.var 0) (.int 0))))), .one (.c (.int .i64 (.f1 41 (.var 7)))), .one (.c (.int .i64 (.o2 (.arith .add .i64) (.f1 41 (.var 7)) (.int 1)))), .one (.c (.bool (.o2 .lss (.o2 (.arith .add .i64) (.f1 41 (.var 7)) (.int 1)) (.f1 41 (.f4 44 (.var 8) (.var 7) (.var 0) (.int 0)))))), .one (.c (.bool (.o2 .lss (.o2 (.arith .add .i64) (.f1 41 (.var 7)) (.int 1)) (.f1 41 (.f4 44 (.var 8) (.var 7) (.var 0) (.int 0)))))), .one (.agg [.int .i64 (.f1 0 (.var 0)), .int .i64 (.f1 1 (.var 0)), .int .i64 (.f1 2 (.var 0)), .int .i64 (.f1 3 (.var 0)), .int .i64 (.f1 4 (.var 0)), .int .i64 (.f1 5 (.var 0)), .int .i64 (.f1 6 (.var 0)), .ptr 3 (.int 0), .int .i64 (.int 0)]), .one (.c (.int .i64 (.f1 41 (.f4 44 (.var 8) (.var 7) (.var 0) (.int 0))))), .one (.c (.int .i64 (.f1 41 (.var 7)))), .one (.c (.bool (.o2 .lss (.f1 41 (.var 7)) (.f1 41 (.f4 44 (.var 8) (.var 7) (.var 0) (.int 0)))))), .one (.c (.bool (.o2 .lss (.f1 41 (.var 7)) (.f1 41 (.f4 44 (.var 8) (.var 7) (.var 0) (.int 0)))))), .one (.c (.ptr 1 (.int 0))), .one (.agg [.int .i64 (.f1 0 (.var 0)), .int .i64 (.f1 1 (.var 0)), .int .i64 (.f1 2 (.var 0)), .int .i64 (.f1 3 (.var 0)), .int .i64 (.f1 4 (.var 0)), .int .i64 (.f1 5 (.var 0)), .int .i64 (.f1 6 (.var 0))]), .one (.c (.ptr 1 (.int 7))), .one (.c (.ptr 3 (.int 0))), .one (.agg [.int .i64 (.f1 42 (.f4 44 (.var 8) (.var 7) (.var 0) (.int 0))), .int .i64 (.f1 43 (.f4 44 (.var 8) (.var 7) (.var 0) (.int 0))), .bool (.f1 44 (.f4 44 (.var 8) (.var 7) (.var 0) (.int 0)))]), .one (.c (.int .i64 (.f1 42 (.f4 44 (.var 8) (.var 7) (.var 0) (.int 0))))), .one (.c (.int .i64 (.f2 3 (.var 0) (.f1 42 (.f4 44 (.var 8) (.var 7) (.var 0) (.int 0)))))), .one (.c (.bool (.o1 .not (.o2 .lss (.f2 3 (.var 0) (.f1 42 (.f4 44 (.var 8) (.var 7) (.var 0) (.int 0)))) (.int 0))))), .one (.c (.bool (.o1 .not (.o2 .lss (.f2 3 (.var 0) (.f1 42 (.f4 44 (.var 8) (.var 7) (.var 0) (.int 0)))) (.int 0))))), .one (.c (.bool (.o1 .not (.o2 .lss (.f2 3 (.var 0) (.f1 42 (.f4 44 (.var 8) (.var 7) (.var 0) (.int 0)))) (.int 0))))), .one (.c (.ptr 1 (.int 7))), .one (.c (.ptr 3 (.int 0))), .one (.c (.int .i64 (.int 6))), .one (.c (.int .u64 (.f2 20 (.f4 44 (.var 8) (.var 7) (.var 0) (.int 0)) (.int 6)))), .one (.c (.bool (.o2 .eql (.f2 20 (.f4 44 (.var 8) (.var 7) (.var 0) (.int 0)) (.int 6)) (.int 0)))), .one (.c (.bool (.o2 .eql (.f2 20 (.f4 44 (.var 8) (.var 7) (.var 0) (.int 0)) (.int 6)) (.int 0)))), .one (.c (.bool (.o2 .eql (.f2 20 (.f4 44 (.var 8) (.var 7) (.var 0) (.int 0)) (.int 6)) (.int 0)))), .one (.c (.bool (.f4 45 (.var 8) (.var 7) (.var 0) (.int 0)))), .any, .any, .any, .any, .any], [(4, .inp [(.int .i64), (.int .i64), (.int .i64)] (.var 1) (.var 2) (.var 3)), (3, .res 0 (.f4 44 (.var 8) (.var 7) (.var 0) (.int 0))), (2, .res 8 (.f4 43 (.var 8) (.var 7) (.var 0) (.int 0))), (1, .cells [.int .i64 (.f1 0 (.var 0)), .int .i64 (.f1 1 (.var 0)), .int .i64 (.f1 2 (.var 0)), .int .i64 (.f1 3 (.var 0)), .int .i64 (.f1 4 (.var 0)), .int .i64 (.f1 5 (.var 0)), .int .i64 (.f1 6 (.var 0)), .ptr 3 (.int 0), .int .i64 (.int 0)])], 33, [((.f4 45 (.var 8) (.var 7) (.var 0) (.int 0)), true), ((.o2 .eql (.f2 20 (.f4 44 (.var 8) (.var 7) (.var 0) (.int 0)) (.int 6)) (.int 0)), false), ((.o2 .lss (.f2 3 (.var 0) (.f1 42 (.f4 44 (.var 8) (.var 7) (.var 0) (.int 0)))) (.int 0)), false), ((.o2 .lss (.f1 41 (.var 7)) (.f1 41 (.f4 44 (.var 8) (.var 7) (.var 0) (.int 0)))), true), ((.o2 .lss (.o2 (.arith .add .i64) (.f1 41 (.var 7)) (.int 1)) (.f1 41 (.f4 44 (.var 8) (.var 7) (.var 0) (.int 0)))), false), ((.o2 .lss (.var 9) (.int 5000)), true)]⟩
def lChk_5 : St := ⟨[.one (.c (.slice 4 (.var 1) (.o1 (.lenR 3) (.var 2)) (.var 4))), .any, .any, .one (.c (.ptr 1 (.int 0))), .one (.c (xu 5)), .any, .one (.c (xi 6)), .one (.c (.ptr 2 (.int 0))), .any, .one (.c (.int .i64 (.o2 (.arith .add .i64) (.var 9) (.int 1)))), .one (.c (.int .i64 (.f1 41 (.var 7)))), .one (.c (.bool (.f4 45 (.var 8) (.var 7) (.var 0) (.int 0)))), .any, .any, .any, .any, .any, .any, .any, .any, .any, .any, .any, .any, .any, .any, .any, .any, .any, .any, .any, .any, .any, .any, .any, .any, .any, .any, .any, .any, .any, .any, .any, .any, .any, .any, .any, .any, .any, .any, .any, .any, .any, .any, .any, .one (.c (xi 9)), .one (.c (.bool (.o2 .lss (.var 9) (.int 5000)))), .one (.c (xi 9)), .one (.c (.int .i64 (.o2 (.arith .add .i64) (.var 9) (.int 1)))), .one (.agg [.int .i64 (.f1 0 (.var 0)), .int .i64 (.f1 1 (.var 0)), .int .i64 (.f1 2 (.var 0)), .int .i64 (.f1 3 (.var 0)), .int .i64 (.f1 4 (.var 0)), .int .i64 (.f1 5 (.var 0)), .int .i64 (.f1 6 (.var 0)), .ptr 3 (.int 0), .int .i64 (.int 0)]), .one (.c (.int .i64 (.f1 41 (.var 7)))), .one (.c (.ptr 2 (.int 0))), .one (.agg [.int .i64 (.f1 0 (.var 0)), .int .i64 (.f1 1 (.var 0)), .int .i64 (.f1 2 (.var 0)), .int .i64 (.f1 3 (.var 0)), .int .i64 (.f1 4 (.var 0)), .int .i64 (.f1 5 (.var 0)), .int .i64 (.f1 6 (.var 0)), .ptr 3 (.int 0), .int .i64 (.int 0)]), .one (.c (.bool (.f4 45 (.var 8) (.var 7) (.var 0) (.int 0)))), .one (.agg [.int .i64 (.f1 0 (.var 0)), .int .i64 (.f1 1 (.var 0)), .int .i64 (.f1 2 (.var 0)), .int .i64 (.f1 3 (.var 0)), .int .i64 (.f1 4 (.var 0)), .int .i64 (.f1 5 (.var 0)), .int .i64 (.f1 6 (.var 0)), .ptr 3 (.int 0), .int .i64 (.int 0)]), .one (.c (.int .i64 (.f1 41 (.f4 44 (.var 8) (.var 7) (.var 0) (.int 0))))), .one (.c (.int .i64 (.f1 41 (.var 7)))), .one (.c (.int .i64 (.o2 (.arith .add .i64) (.f1 41 (.var 7)) (.int 1)))), .one (.c (.bool (.o2 .lss (.o2 (.arith .add .i64) (.f1 41 (.var 7)) (.int 1)) (.f1 41 (.f4 44 (.var 8) (.var 7) (.var 0) (.int 0)))))), .one (.c (.bool (.o2 .lss (.o2 (.arith .add .i64) (.f1 41 (.var 7)) (.int 1)) (.f1 41 (.f4 44 (.var 8) (.var 7) (.var 0) (.int 0)))))), .one (.agg [.int .i64 (.f1 0 (.var 0)), .int .i64 (.f1 1 (.var 0)), .int .i64 (.f1 2 (.var 0)), .int .i64 (.f1 3 (.var 0)), .int .i64 (.f1 4 (.var 0)), .int .i64 (.f1 5 (.var 0)), .int .i64 (.f1 6 (.var 0)), .ptr 3 (.int 0), .int .i64 (.int 0)]), .one (.c (.int .i64 (.f1 41 (.f4 44 (.var 8) (.var 7) (.var 0) (.int 0))))), .one (.c (.int .i64 (.f1 41 (.var 7)))), .one (.c (.bool (.o2 .lss (.f1 41 (.var 7)) (.f1 41 (.f4 44 (.var 8) (.var 7) (.var 0) (.int 0)))))), .one (.c (.bool (.o2 .lss (.f1 41 (.var 7)) (.f1 41 (.f4 44 (.var 8) (.var 7) (.var 0) (.int 0)))))), .one (.c (.ptr 1 (.int 0))), .one (.agg [.int .i64 (.f1 0 (.var 0)), .int .i64 (.f1 1 (.var 0)), .int .i64 (.f1 2 (.var 0)), .int .i64 (.f1 3 (.var 0)), .int .i64 (.f1 4 (.var 0)), .int .i64 (.f1 5 (.var 0)), .int .i64 (.f1 6 (.var 0))]), .one (.c (.ptr 1 (.int 7))), .one (.c (.ptr 3 (.int 0))), .one (.agg [.int .i64 (.f1 42 (.f4 44 (.var 8) (.var 7) (.var 0) (.int 0))), .int .i64 (.f1 43 (.f4 44 (.var 8) (.var 7) (.var 0) (.int 0))), .bool (.f1 44 (.f4 44 (.var 8) (.var 7) (.var 0) (.int 0)))]), .one (.c (.int .i64 (.f1 42 (.f4 44 (.var 8) (.var 7) (.var 0) (.int 0))))), .one (.c (.int .i64 (.f2 3 (.var 0) (.f1 42 (.f4 44 (.var 8) (.var 7) (.var 0) (.int 0)))))), .one (.c (.bool (.o1 .not (.o2 .lss (.f2 3 (.var 0) (.f1 42 (.f4 44 (.var 8) (.var 7) (.var 0) (.int 0)))) (.int 0))))), .one (.c (.bool (.o1 .not (.o2 .lss (.f2 3 (.var 0) (.f1 42 (.f4 44 (.var 8) (.var 7) (.var 0) (.int 0)))) (.int 0))))), .one (.c (.bool (.o1 .not (.o2 .lss (.f2 3 (.var 0) (.f1 42 (.f4 44 (.var 8) (.var 7) (.var 0) (.int 0)))) (.int 0))))), .one (.c (.ptr 1 (.int 7))), .one (.c (.ptr 3 (.int 0))), .one (.c (.int .i64 (.int 6))), .one (.c (.int .u64 (.f2 20 (.f4 44 (.var 8) (.var 7) (.var 0) (.int 0)) (.int 6)))), .one (.c (.bool (.o2 .eql (.f2 20 (.f4 44 (.var 8) (.var 7) (.var 0) (.int 0)) (.int 6)) (.int 0)))), .one (.c (.bool (.o2 .eql (.f2 20 (.f4 44 (.var 8) (.var 7) (.var 0) (.int 0)) (.int 6)) (.int 0)))), .one (.c (.bool (.o2 .eql (.f2 20 (.f4 44 (.var 8) (.var 7) (.var 0) (.int 0)) (.int 6)) (.int 0)))), .one (.c (.bool (.f4 45 (.var 8) (.var 7) (.var 0) (.int 0)))), .any, .any, .any, .any, .any], [(4, .inp [(.int .i64), (.int .i64), (.int .i64)] (.var 1) (.var 2) (.var 3)), (3, .res 0 (.f4 44 (.var 8) (.var 7) (.var 0) (.int 0))), (2, .res 8 (.f4 43 (.var 8) (.var 7) (.var 0) (.int 0))), (1, .cells [.int .i64 (.f1 0 (.var 0)), .int .i64 (.f1 1 (.var 0)), .int .i64 (.f1 2 (.var 0)), .int .i64 (.f1 3 (.var 0)), .int .i64 (.f1 4 (.var 0)), .int .i64 (.f1 5 (.var 0)), .int .i64 (.f1 6 (.var 0)), .ptr 3 (.int 0), .int .i64 (.int 0)])], 33, [((.f4 45 (.var 8) (.var 7) (.var 0) (.int 0)), false), ((.o2 .eql (.f2 20 (.f4 44 (.var 8) (.var 7) (.var 0) (.int 0)) (.int 6)) (.int 0)), false), ((.o2 .lss (.f2 3 (.var 0) (.f1 42 (.f4 44 (.var 8) (.var 7) (.var 0) (.int 0)))) (.int 0)), false), ((.o2 .lss (.f1 41 (.var 7)) (.f1 41 (.f4 44 (.var 8) (.var 7) (.var 0) (.int 0)))), true), ((.o2 .lss (.o2 (.arith .add .i64) (.f1 41 (.var 7)) (.int 1)) (.f1 41 (.f4 44 (.var 8) (.var 7) (.var 0) (.int 0)))), false), ((.o2 .lss (.var 9) (.int 5000)), true)]⟩
def lChk_6 : St := ⟨[.one (.c (.slice 4 (.var 1) (.o1 (.lenR 3) (.var 2)) (.var 4))), .any, .any, .one (.c (.ptr 1 (.int 0))), .one (.c (xu 5)), .any, .one (.c (xi 6)), .one (.c (.ptr 2 (.int 0))), .any, .one (.c (xi 9)), .one (.c (.int .i64 (.f1 41 (.var 7)))), .one (.c (.bool (.f4 45 (.var 8) (.var 7) (.var 0) (.int 0)))), .any, .any, .any, .any, .any, .any, .any, .any, .any, .any, .any, .any, .any, .any, .any, .any, .any, .any, .any, .any, .any, .any, .any, .any, .any, .any, .any, .any, .any, .any, .any, .any, .any, .any, .any, .any, .any, .any, .any, .any, .any, .any, .any, .one (.c (xi 9)), .one (.c (.bool (.o2 .lss (.var 9) (.int 5000)))), .any, .any, .one (.agg [.int .i64 (.f1 0 (.var 0)), .int .i64 (.f1 1 (.var 0)), .int .i64 (.f1 2 (.var 0)), .int .i64 (.f1 3 (.var 0)), .int .i64 (.f1 4 (.var 0)), .int .i64 (.f1 5 (.var 0)), .int .i64 (.f1 6 (.var 0)), .ptr 3 (.int 0), .int .i64 (.int 0)]), .one (.c (.int .i64 (.f1 41 (.var 7)))), .one (.c (.ptr 2 (.int 0))), .one (.agg [.int .i64 (.f1 0 (.var 0)), .int .i64 (.f1 1 (.var 0)), .int .i64 (.f1 2 (.var 0)), .int .i64 (.f1 3 (.var 0)), .int .i64 (.f1 4 (.var 0)), .int .i64 (.f1 5 (.var 0)), .int .i64 (.f1 6 (.var 0)), .ptr 3 (.int 0), .int .i64 (.int 0)]), .one (.c (.bool (.f4 45 (.var 8) (.var 7) (.var 0) (.int 0)))), .one (.agg [.int .i64 (.f1 0 (.var 0)), .int .i64 (.f1 1 (.var 0)), .int .i64 (.f1 2 (.var 0)), .int .i64 (.f1 3 (.var 0)), .int .i64 (.f1 4 (.var 0)), .int .i64 (.f1 5 (.var 0)), .int .i64 (.f1 6 (.var 0)), .ptr 3 (.int 0), .int .i64 (.int 0)]), .one (.c (.int .i64 (.f1 41 (.f4 44 (.var 8) (.var 7) (.var 0) (.int 0))))), .one (.c (.int .i64 (.f1 41 (.var 7)))), .one (.c (.int .i64 (.o2 (.arith .add .i64) (.f1 41 (.var 7)) (.int 1)))), .one (.c (.bool (.o2 .lss (.o2 (.arith .add .i64) (.f1 41 (.var 7)) (.int 1)) (.f1 41 (.f4 44 (.var 8) (.var 7) (.var 0) (.int 0)))))), .one (.c (.bool (.o2 .lss (.o2 (.arith .add .i64) (.f1 41 (.var 7)) (.int 1)) (.f1 41 (.f4 44 (.var 8) (.var 7) (.var 0) (.int 0)))))), .one (.agg [.int .i64 (.f1 0 (.var 0)), .int .i64 (.f1 1 (.var 0)), .int .i64 (.f1 2 (.var 0)), .int .i64 (.f1 3 (.var 0)), .int .i64 (.f1 4 (.var 0)), .int .i64 (.f1 5 (.var 0)), .int .i64 (.f1 6 (.var 0)), .ptr 3 (.int 0), .int .i64 (.int 0)]), .one (.c (.int .i64 (.f1 41 (.f4 44 (.var 8) (.var 7) (.var 0) (.int 0))))), .one (.c (.int .i64 (.f1 41 (.var 7)))), .one (.c (.bool (.o2 .lss (.f1 41 (.var 7)) (.f1 41 (.f4 44 (.var 8) (.var 7) (.var 0) (.int 0)))))), .one (.c (.bool (.o2 .lss (.f1 41 (.var 7)) (.f1 41 (.f4 44 (.var 8) (.var 7) (.var 0) (.int 0)))))), .tup [], .tup [], .tup [], .tup [], .tup [], .tup [], .tup [], .tup [], .one (.c (.bool (.bool false))), .one (.c (.bool (.bool false))), .tup [], .tup [], .tup [], .tup [], .tup [], .one (.c (.bool (.bool false))), .one (.c (.bool (.bool false))), .one (.c (.bool (.f4 45 (.var 8) (.var 7) (.var 0) (.int 0)))), .any, .any, .any, .any, .any], [(4, .inp [(.int .i64), (.int .i64), (.int .i64)] (.var 1) (.var 2) (.var 3)), (3, .res 0 (.f4 44 (.var 8) (.var 7) (.var 0) (.int 0))), (2, .res 8 (.f4 43 (.var 8) (.var 7) (.var 0) (.int 0))), (1, .cells [.int .i64 (.f1 0 (.var 0)), .int .i64 (.f1 1 (.var 0)), .int .i64 (.f1 2 (.var 0)), .int .i64 (.f1 3 (.var 0)), .int .i64 (.f1 4 (.var 0)), .int .i64 (.f1 5 (.var 0)), .int .i64 (.f1 6 (.var 0)), .ptr 3 (.int 0), .int .i64 (.int 0)])], 33, [((.f4 45 (.var 8) (.var 7) (.var 0) (.int 0)), true), ((.o2 .lss (.f1 41 (.var 7)) (.f1 41 (.f4 44 (.var 8) (.var 7) (.var 0) (.int 0)))), false), ((.o2 .lss (.o2 (.arith .add .i64) (.f1 41 (.var 7)) (.int 1)) (.f1 41 (.f4 44 (.var 8) (.var 7) (.var 0) (.int 0)))), false), ((.o2 .lss (.var 9) (.int 5000)), true)]⟩
def lChk_7 : St := ⟨[.one (.c (.slice 4 (.var 1) (.o1 (.lenR 3) (.var 2)) (.var 4))), .any, .any, .one (.c (.ptr 1 (.int 0))), .one (.c (xu 5)), .any, .one (.c (xi 6)), .one (.c (.ptr 2 (.int 0))), .any, .one (.c (.int .i64 (.o2 (.arith .add .i64) (.var 9) (.int 1)))), .one (.c (.int .i64 (.f1 41 (.var 7)))), .one (.c (.bool (.f4 45 (.var 8) (.var 7) (.var 0) (.int 0)))), .any, .any, .any, .any, .any, .any, .any, .any, .any, .any, .any, .any, .any, .any, .any, .any, .any, .any, .any, .any, .any, .any, .any, .any, .any, .any, .any, .any, .any, .any, .any, .any, .any, .any, .any, .any, .any, .any, .any, .any, .any, .any, .any, .one (.c (xi 9)), .one (.c (.bool (.o2 .lss (.var 9) (.int 5000)))), .one (.c (xi 9)), .one (.c (.int .i64 (.o2 (.arith .add .i64) (.var 9) (.int 1)))), .one (.agg [.int .i64 (.f1 0 (.var 0)), .int .i64 (.f1 1 (.var 0)), .int .i64 (.f1 2 (.var 0)), .int .i64 (.f1 3 (.var 0)), .int .i64 (.f1 4 (.var 0)), .int .i64 (.f1 5 (.var 0)), .int .i64 (.f1 6 (.var 0)), .ptr 3 (.int 0), .int .i64 (.int 0)]), .one (.c (.int .i64 (.f1 41 (.var 7)))), .one (.c (.ptr 2 (.int 0))), .one (.agg [.int .i64 (.f1 0 (.var 0)), .int .i64 (.f1 1 (.var 0)), .int .i64 (.f1 2 (.var 0)), .int .i64 (.f1 3 (.var 0)), .int .i64 (.f1 4 (.var 0)), .int .i64 (.f1 5 (.var 0)), .int .i64 (.f1 6 (.var 0)), .ptr 3 (.int 0), .int .i64 (.int 0)]), .one (.c (.bool (.f4 45 (.var 8) (.var 7) (.var 0) (.int 0)))), .one (.agg [.int .i64 (.f1 0 (.var 0)), .int .i64 (.f1 1 (.var 0)), .int .i64 (.f1 2 (.var 0)), .int .i64 (.f1 3 (.var 0)), .int .i64 (.f1 4 (.var 0)), .int .i64 (.f1 5 (.var 0)), .int .i64 (.f1 6 (.var 0)), .ptr 3 (.int 0), .int .i64 (.int 0)]), .one (.c (.int .i64 (.f1 41 (.f4 44 (.var 8) (.var 7) (.var 0) (.int 0))))), .one (.c (.int .i64 (.f1 41 (.var 7)))), .one (.c (.int .i64 (.o2 (.arith .add .i64) (.f1 41 (.var 7)) (.int 1)))), .one (.c (.bool (.o2 .lss (.o2 (.arith .add .i64) (.f1 41 (.var 7)) (.int 1)) (.f1 41 (.f4 44 (.var 8) (.var 7) (.var 0) (.int 0)))))), .one (.c (.bool (.o2 .lss (.o2 (.arith .add .i64) (.f1 41 (.var 7)) (.int 1)) (.f1 41 (.f4 44 (.var 8) (.var 7) (.var 0) (.int 0)))))), .one (.agg [.int .i64 (.f1 0 (.var 0)), .int .i64 (.f1 1 (.var 0)), .int .i64 (.f1 2 (.var 0)), .int .i64 (.f1 3 (.var 0)), .int .i64 (.f1 4 (.var 0)), .int .i64 (.f1 5 (.var 0)), .int .i64 (.f1 6 (.var 0)), .ptr 3 (.int 0), .int .i64 (.int 0)]), .one (.c (.int .i64 (.f1 41 (.f4 44 (.var 8) (.var 7) (.var 0) (.int 0))))), .one (.c (.int .i64 (.f1 41 (.var 7)))), .one (.c (.bool (.o2 .lss (.f1 41 (.var 7)) (.f1 41 (.f4 44 (.var 8) (.var 7) (.var 0) (.int 0)))))), .one (.c (.bool (.o2 .lss (.f1 41 (.var 7)) (.f1 41 (.f4 44 (.var 8) (.var 7) (.var 0) (.int 0)))))), .tup [], .tup [], .tup [], .tup [], .tup [], .tup [], .tup [], .tup [], .one (.c (.bool (.bool false))), .one (.c (.bool (.bool false))), .tup [], .tup [], .tup [], .tup [], .tup [], .one (.c (.bool (.bool false))), .one (.c (.bool (.bool false))), .one (.c (.bool (.f4 45 (.var 8) (.var 7) (.var 0) (.int 0)))), .any, .any, .any, .any, .any], [(4, .inp [(.int .i64), (.int .i64), (.int .i64)] (.var 1) (.var 2) (.var 3)), (3, .res 0 (.f4 44 (.var 8) (.var 7) (.var 0) (.int 0))), (2, .res 8 (.f4 43 (.var 8) (.var 7) (.var 0) (.int 0))), (1, .cells [.int .i64 (.f1 0 (.var 0)), .int .i64 (.f1 1 (.var 0)), .int .i64 (.f1 2 (.var 0)), .int .i64 (.f1 3 (.var 0)), .int .i64 (.f1 4 (.var 0)), .int .i64 (.f1 5 (.var 0)), .int .i64 (.f1 6 (.var 0)), .ptr 3 (.int 0), .int .i64 (.int 0)])], 33, [((.f4 45 (.var 8) (.var 7) (.var 0) (.int 0)), false), ((.o2 .lss (.f1 41 (.var 7)) (.f1 41 (.f4 44 (.var 8) (.var 7) (.var 0) (.int 0)))), false), ((.o2 .lss (.o2 (.arith .add .i64) (.f1 41 (.var 7)) (.int 1)) (.f1 41 (.f4 44 (.var 8) (.var 7) (.var 0) (.int 0)))), false), ((.o2 .lss (.var 9) (.int 5000)), true)]⟩
def lChk_8 : St := ⟨[.one (.c (.slice 4 (.var 1) (.o1 (.lenR 3) (.var 2)) (.var 4))), .any, .any, .one (.c (.ptr 1 (.int 0))), .one (.c (xu 5)), .any, .one (.c (xi 6)), .one (.c (.ptr 2 (.int 0))), .any, .one (.c (xi 9)), .any, .any, .any, .any, .any, .any, .any, .any, .any, .any, .any, .any, .any, .any, .any, .any, .any, .any, .any, .any, .any, .any, .any, .any, .any, .any, .any, .any, .any, .any, .any, .any, .any, .any, .any, .any, .any, .any, .any, .any, .any, .any, .any, .any, .any, .one (.c (xi 9)), .one (.c (.bool (.o2 .lss (.var 9) (.int 5000)))), .any, .any, .any, .any, .any, .any, .any, .any, .any, .any, .any, .any, .any, .any, .any, .any, .any, .any, .any, .any, .any, .any, .any, .any, .any, .any, .any, .any, .any, .any, .any, .any, .any, .any, .any, .any, .any, .any, .any, .any, .any], [(1, .cells [.int .i64 (.f1 0 (.var 0)), .int .i64 (.f1 1 (.var 0)), .int .i64 (.f1 2 (.var 0)), .int .i64 (.f1 3 (.var 0)), .int .i64 (.f1 4 (.var 0)), .int .i64 (.f1 5 (.var 0)), .int .i64 (.f1 6 (.var 0)), .ptr 3 (.int 0), .int .i64 (.int 0)]), (2, .res 8 (.var 8)), (3, .res 0 (.var 7)), (4, .inp [(.int .i64), (.int .i64), (.int .i64)] (.var 1) (.var 2) (.var 3))], 5, [((.o2 .lss (.var 9) (.int 5000)), false)]⟩
def lChk_ls : List Leaf := [(.ret, lChk_0), ((.exit 2), lChk_1), (.norm, lChk_2), (.ret, lChk_3), ((.exit 2), lChk_4), (.norm, lChk_5), ((.exit 2), lChk_6), (.norm, lChk_7), ((.exit 2), lChk_8)]
def lStp_0 : St := ⟨[.one (.c (.slice 4 (.var 1) (.o1 (.lenR 3) (.var 2)) (.var 4))), .any, .any, .one (.c (.ptr 1 (.int 0))), .one (.c (xu 5)), .any, .one (.c (xi 7)), .any, .any, .any, .any, .any, .any, .any, .any, .any, .any, .any, .any, .any, .any, .any, .any, .one (.c (xi 7)), .one (.c (.slice 4 (.var 1) (.o1 (.lenR 3) (.var 2)) (.var 4))), .one (.c (.int .i64 (.o1 .nat (.o1 (.lenR 3) (.var 2))))), .one (.c (.bool (.o2 .lss (.var 7) (.o1 .nat (.o1 (.lenR 3) (.var 2)))))), .one (.c (.bool (.o2 .lss (.var 7) (.o1 .nat (.o1 (.lenR 3) (.var 2)))))), .one (.c (xi 7)), .one (.c (.bool (.o2 .lss (.var 7) (.int 12)))), .one (.c (.bool (.o2 .lss (.var 7) (.int 12)))), .any, .any, .any, .one (.c (.slice 4 (.var 1) (.o1 (.lenR 3) (.var 2)) (.var 4))), .one (.c (xi 7)), .any, .any, .any, .any, .any, .any, .any, .one (.c (.slice 4 (.var 1) (.o1 (.lenR 3) (.var 2)) (.var 4))), .one (.c (xi 7)), .any, .any, .any, .any, .one (.c (xu 5)), .any, .any, .any, .any, .any, .any, .any, .any, .any, .any, .any, .any, .any, .any, .any, .any, .any, .any, .any, .any, .any, .any, .any, .any, .any, .any, .any, .any, .any, .any, .any, .any, .any, .any, .any, .any, .any, .any, .any, .any, .any, .any, .any, .any, .any, .any, .any, .any], [(1, .cells [.int .i64 (.f1 0 (.var 0)), .int .i64 (.f1 1 (.var 0)), .int .i64 (.f1 2 (.var 0)), .int .i64 (.f1 3 (.var 0)), .int .i64 (.f1 4 (.var 0)), .int .i64 (.f1 5 (.var 0)), .int .i64 (.f1 6 (.var 0)), .ptr 3 (.int 0), .int .i64 (.int 0)]), (3, .res 0 (.var 6)), (4, .inp [(.int .i64), (.int .i64), (.int .i64)] (.var 1) (.var 2) (.var 3))], 27, [((.o2 .lss (.var 7) (.int 0)), true), ((.o2 .lss (.var 7) (.int 12)), true), ((.o2 .lss (.var 7) (.o1 .nat (.o1 (.lenR 3) (.var 2)))), true)]⟩
def lStp_1 : St := ⟨[.one (.c (.slice 4 (.var 1) (.o1 (.lenR 3) (.var 2)) (.var 4))), .any, .one (.c (.bool (.bool false))), .one (.c (.ptr 1 (.int 0))), .one (.c (xu 5)), .any, .one (.c (xi 7)), .one (.c (.nilp)), .one (.c (.int .i64 (.int 1))), .any, .any, .any, .any, .any, .any, .any, .any, .any, .any, .any, .any, .any, .any, .one (.c (xi 7)), .one (.c (.slice 4 (.var 1) (.o1 (.lenR 3) (.var 2)) (.var 4))), .one (.c (.int .i64 (.o1 .nat (.o1 (.lenR 3) (.var 2))))), .one (.c (.bool (.o2 .lss (.var 7) (.o1 .nat (.o1 (.lenR 3) (.var 2)))))), .one (.c (.bool (.o2 .lss (.var 7) (.o1 .nat (.o1 (.lenR 3) (.var 2)))))), .one (.c (xi 7)), .one (.c (.bool (.o2 .lss (.var 7) (.int 12)))), .one (.c (.bool (.o2 .lss (.var 7) (.int 12)))), .any, .any, .tup [.c (.nilp), .c (.int .i64 (.int 1))], .one (.c (.slice 4 (.var 1) (.o1 (.lenR 3) (.var 2)) (.var 4))), .one (.c (xi 7)), .one (.c (.rp 4 (.var 1) (.var 7) 3 0)), .one (.c (.rp 4 (.var 1) (.var 7) 3 1)), .one (.c (.int .i64 (.o2 (.nthR 3 1) (.var 2) (.var 7)))), .one (.c (.int .i64 (.o2 (.div .rem .i64) (.o2 (.nthR 3 1) (.var 2) (.var 7)) (.int 3)))), .one (.c (.int .i64 (.o2 (.arith .add .i64) (.o2 (.div .rem .i64) (.o2 (.nthR 3 1) (.var 2) (.var 7)) (.int 3)) (.int 3)))), .one (.c (.int .i64 (.o2 (.div .rem .i64) (.o2 (.arith .add .i64) (.o2 (.div .rem .i64) (.o2 (.nthR 3 1) (.var 2) (.var 7)) (.int 3)) (.int 3)) (.int 3)))), .one (.c (.int .i64 (.o2 (.arith .add .i64) (.int 1) (.o2 (.div .rem .i64) (.o2 (.arith .add .i64) (.o2 (.div .rem .i64) (.o2 (.nthR 3 1) (.var 2) (.var 7)) (.int 3)) (.int 3)) (.int 3))))), .one (.c (.slice 4 (.var 1) (.o1 (.lenR 3) (.var 2)) (.var 4))), .one (.c (xi 7)), .one (.c (.rp 4 (.var 1) (.var 7) 3 0)), .one (.c (.rp 4 (.var 1) (.var 7) 3 2)), .one (.c (.int .i64 (.o2 (.nthR 3 2) (.var 2) (.var 7)))), .one (.c (.int .i64 (.o2 (.bits .and .i64) (.o2 (.nthR 3 2) (.var 2) (.var 7)) (.int 7)))), .one (.c (xu 5)), .tup [.c (.nilp), .c (.int .i64 (.int 1))], .one (.c (.nilp)), .one (.c (.int .i64 (.int 1))), .one (.c (.int .i64 (.int 1))), .one (.c (.bool (.bool true))), .any, .any, .any, .any, .any, .any, .any, .any, .any, .any, .any, .any, .any, .any, .any, .any, .any, .any, .any, .any, .any, .any, .any, .any, .any, .any, .any, .any, .any, .any, .any, .any, .any, .any, .any, .any, .any, .any, .any, .any, .any, .any, .any], [(1, .cells [.int .i64 (.f1 0 (.var 0)), .int .i64 (.f1 1 (.var 0)), .int .i64 (.f1 2 (.var 0)), .int .i64 (.f1 3 (.var 0)), .int .i64 (.f1 4 (.var 0)), .int .i64 (.f1 5 (.var 0)), .int .i64 (.f1 6 (.var 0)), .ptr 3 (.int 0), .int .i64 (.int 0)]), (3, .res 0 (.var 6)), (4, .inp [(.int .i64), (.int .i64), (.int .i64)] (.var 1) (.var 2) (.var 3))], 29, [((.f2 41 (.o2 (.arith .add .i64) (.int 1) (.o2 (.div .rem .i64) (.o2 (.arith .add .i64) (.o2 (.div .rem .i64) (.o2 (.nthR 3 1) (.var 2) (.var 7)) (.int 3)) (.int 3)) (.int 3))) (.o2 (.bits .and .i64) (.o2 (.nthR 3 2) (.var 2) (.var 7)) (.int 7))), false), ((.o2 .lss (.var 7) (.o1 (.lenR 3) (.var 2))), true), ((.o2 .lss (.var 7) (.int 0)), false), ((.o2 .lss (.var 7) (.int 12)), true), ((.o2 .lss (.var 7) (.o1 .nat (.o1 (.lenR 3) (.var 2)))), true)]⟩
def lStp_2 : St := ⟨[.one (.c (.slice 4 (.var 1) (.o1 (.lenR 3) (.var 2)) (.var 4))), .any, .any, .one (.c (.ptr 1 (.int 0))), .one (.c (xu 5)), .any, .one (.c (.int .i64 (.o2 (.arith .add .i64) (.var 7) (.int 1)))), .any, .any, .any, .any, .any, .any, .any, .any, .any, .any, .any, .any, .any, .any, .any, .any, .any, .any, .any, .any, .any, .any, .any, .any, .one (.c (xi 7)), .one (.c (.int .i64 (.o2 (.arith .add .i64) (.var 7) (.int 1)))), .any, .any, .any, .any, .any, .any, .any, .any, .any, .any, .any, .any, .any, .any, .any, .any, .any, .any, .any, .any, .any, .any, .any, .any, .any, .any, .any, .any, .any, .any, .any, .any, .any, .any, .any, .any, .any, .any, .any, .any, .any, .any, .any, .any, .any, .any, .any, .any, .any, .any, .any, .any, .any, .any, .any, .any, .any, .any, .any, .any, .any, .any, .any, .any, .any], [(4, .inp [(.int .i64), (.int .i64), (.int .i64)] (.var 1) (.var 2) (.var 3)), (3, .res 0 (.f1 108 (.f1 98 (.f3 200 (.f2 60 (.var 0) (.int 0)) (.f2 62 (.f3 5 (.o2 (.arith .add .i64) (.int 1) (.o2 (.div .rem .i64) (.o2 (.arith .add .i64) (.o2 (.div .rem .i64) (.o2 (.nthR 3 1) (.var 2) (.var 7)) (.int 3)) (.int 3)) (.int 3))) (.o2 (.bits .and .i64) (.o2 (.nthR 3 2) (.var 2) (.var 7)) (.int 7)) (.var 5)) (.var 6)) (.int 0))))), (1, .cells [.int .i64 (.f1 0 (.var 0)), .int .i64 (.f1 1 (.var 0)), .int .i64 (.f1 2 (.var 0)), .int .i64 (.f1 3 (.var 0)), .int .i64 (.f1 4 (.var 0)), .int .i64 (.f1 5 (.var 0)), .int .i64 (.f1 6 (.var 0)), .ptr 3 (.int 0), .int .i64 (.int 0)])], 28, [((.f1 97 (.f3 200 (.f2 60 (.var 0) (.int 0)) (.f2 62 (.f3 5 (.o2 (.arith .add .i64) (.int 1) (.o2 (.div .rem .i64) (.o2 (.arith .add .i64) (.o2 (.div .rem .i64) (.o2 (.nthR 3 1) (.var 2) (.var 7)) (.int 3)) (.int 3)) (.int 3))) (.o2 (.bits .and .i64) (.o2 (.nthR 3 2) (.var 2) (.var 7)) (.int 7)) (.var 5)) (.var 6)) (.int 0))), true), ((.f2 41 (.o2 (.arith .add .i64) (.int 1) (.o2 (.div .rem .i64) (.o2 (.arith .add .i64) (.o2 (.div .rem .i64) (.o2 (.nthR 3 1) (.var 2) (.var 7)) (.int 3)) (.int 3)) (.int 3))) (.o2 (.bits .and .i64) (.o2 (.nthR 3 2) (.var 2) (.var 7)) (.int 7))), true), ((.o2 .lss (.var 7) (.o1 (.lenR 3) (.var 2))), true), ((.o2 .lss (.var 7) (.int 0)), false), ((.o2 .lss (.var 7) (.int 12)), true), ((.o2 .lss (.var 7) (.o1 .nat (.o1 (.lenR 3) (.var 2)))), true)]⟩
def lStp_3 : St := ⟨[.any, .any, .one (.c (.bool (.bool false))), .any, .any, .any, .any, .any, .any, .any, .any, .any, .any, .any, .any, .any, .any, .any, .any, .any, .any, .any, .any, .any, .any, .any, .any, .any, .any, .any, .any, .any, .any, .any, .any, .any, .any, .any, .any, .any, .any, .any, .any, .any, .any, .any, .any, .any, .any, .any, .any, .any, .any, .any, .any, .any, .any, .any, .any, .any, .any, .any, .any, .any, .any, .any, .any, .any, .any, .any, .any, .any, .any, .any, .any, .any, .any, .any, .any, .any, .any, .any, .any, .any, .any, .any, .any, .any, .any, .any, .any, .any, .any, .any, .any, .any, .any, .any], [], 28, [((.f1 97 (.f3 200 (.f2 60 (.var 0) (.int 0)) (.f2 62 (.f3 5 (.o2 (.arith .add .i64) (.int 1) (.o2 (.div .rem .i64) (.o2 (.arith .add .i64) (.o2 (.div .rem .i64) (.o2 (.nthR 3 1) (.var 2) (.var 7)) (.int 3)) (.int 3)) (.int 3))) (.o2 (.bits .and .i64) (.o2 (.nthR 3 2) (.var 2) (.var 7)) (.int 7)) (.var 5)) (.var 6)) (.int 0))), false), ((.f2 41 (.o2 (.arith .add .i64) (.int 1) (.o2 (.div .rem .i64) (.o2 (.arith .add .i64) (.o2 (.div .rem .i64) (.o2 (.nthR 3 1) (.var 2) (.var 7)) (.int 3)) (.int 3)) (.int 3))) (.o2 (.bits .and .i64) (.o2 (.nthR 3 2) (.var 2) (.var 7)) (.int 7))), true), ((.o2 .lss (.var 7) (.o1 (.lenR 3) (.var 2))), true), ((.o2 .lss (.var 7) (.int 0)), false), ((.o2 .lss (.var 7) (.int 12)), true), ((.o2 .lss (.var 7) (.o1 .nat (.o1 (.lenR 3) (.var 2)))), true)]⟩
def lStp_4 : St := ⟨[], [], 0, [((.o2 .lss (.int 0) (.int 0)), true), ((.f2 41 (.o2 (.arith .add .i64) (.int 1) (.o2 (.div .rem .i64) (.o2 (.arith .add .i64) (.o2 (.div .rem .i64) (.o2 (.nthR 3 1) (.var 2) (.var 7)) (.int 3)) (.int 3)) (.int 3))) (.o2 (.bits .and .i64) (.o2 (.nthR 3 2) (.var 2) (.var 7)) (.int 7))), true), ((.o2 .lss (.var 7) (.o1 (.lenR 3) (.var 2))), true), ((.o2 .lss (.var 7) (.int 0)), false), ((.o2 .lss (.var 7) (.int 12)), true), ((.o2 .lss (.var 7) (.o1 .nat (.o1 (.lenR 3) (.var 2)))), true)]⟩
def lStp_5 : St := ⟨[.one (.c (.slice 4 (.var 1) (.o1 (.lenR 3) (.var 2)) (.var 4))), .any, .any, .one (.c (.ptr 1 (.int 0))), .one (.c (xu 5)), .any, .one (.c (xi 7)), .any, .any, .any, .any, .any, .any, .any, .any, .any, .any, .any, .any, .any, .any, .any, .any, .one (.c (xi 7)), .one (.c (.slice 4 (.var 1) (.o1 (.lenR 3) (.var 2)) (.var 4))), .one (.c (.int .i64 (.o1 .nat (.o1 (.lenR 3) (.var 2))))), .one (.c (.bool (.o2 .lss (.var 7) (.o1 .nat (.o1 (.lenR 3) (.var 2)))))), .one (.c (.bool (.o2 .lss (.var 7) (.o1 .nat (.o1 (.lenR 3) (.var 2)))))), .one (.c (xi 7)), .one (.c (.bool (.o2 .lss (.var 7) (.int 12)))), .one (.c (.bool (.o2 .lss (.var 7) (.int 12)))), .any, .any, .any, .one (.c (.slice 4 (.var 1) (.o1 (.lenR 3) (.var 2)) (.var 4))), .one (.c (xi 7)), .any, .any, .any, .any, .any, .any, .any, .one (.c (.slice 4 (.var 1) (.o1 (.lenR 3) (.var 2)) (.var 4))), .one (.c (xi 7)), .any, .any, .any, .any, .one (.c (xu 5)), .any, .any, .any, .any, .any, .any, .any, .any, .any, .any, .any, .any, .any, .any, .any, .any, .any, .any, .any, .any, .any, .any, .any, .any, .any, .any, .any, .any, .any, .any, .any, .any, .any, .any, .any, .any, .any, .any, .any, .any, .any, .any, .any, .any, .any, .any, .any, .any], [(1, .cells [.int .i64 (.f1 0 (.var 0)), .int .i64 (.f1 1 (.var 0)), .int .i64 (.f1 2 (.var 0)), .int .i64 (.f1 3 (.var 0)), .int .i64 (.f1 4 (.var 0)), .int .i64 (.f1 5 (.var 0)), .int .i64 (.f1 6 (.var 0)), .ptr 3 (.int 0), .int .i64 (.int 0)]), (3, .res 0 (.var 6)), (4, .inp [(.int .i64), (.int .i64), (.int .i64)] (.var 1) (.var 2) (.var 3))], 27, [((.o2 .lss (.var 7) (.o1 (.lenR 3) (.var 2))), false), ((.o2 .lss (.var 7) (.int 0)), false), ((.o2 .lss (.var 7) (.int 12)), true), ((.o2 .lss (.var 7) (.o1 .nat (.o1 (.lenR 3) (.var 2)))), true)]⟩
def lStp_6 : St := ⟨[.one (.c (.slice 4 (.var 1) (.o1 (.lenR 3) (.var 2)) (.var 4))), .any, .any, .one (.c (.ptr 1 (.int 0))), .one (.c (xu 5)), .any, .one (.c (xi 7)), .any, .any, .any, .any, .any, .any, .any, .any, .any, .any, .any, .any, .any, .any, .any, .any, .one (.c (xi 7)), .one (.c (.slice 4 (.var 1) (.o1 (.lenR 3) (.var 2)) (.var 4))), .one (.c (.int .i64 (.o1 .nat (.o1 (.lenR 3) (.var 2))))), .one (.c (.bool (.o2 .lss (.var 7) (.o1 .nat (.o1 (.lenR 3) (.var 2)))))), .one (.c (.bool (.o2 .lss (.var 7) (.o1 .nat (.o1 (.lenR 3) (.var 2)))))), .one (.c (xi 7)), .one (.c (.bool (.o2 .lss (.var 7) (.int 12)))), .one (.c (.bool (.o2 .lss (.var 7) (.int 12)))), .any, .any, .any, .any, .any, .any, .any, .any, .any, .any, .any, .any, .any, .any, .any, .any, .any, .any, .any, .any, .any, .any, .any, .any, .any, .any, .any, .any, .any, .any, .any, .any, .any, .any, .any, .any, .any, .any, .any, .any, .any, .any, .any, .any, .any, .any, .any, .any, .any, .any, .any, .any, .any, .any, .any, .any, .any, .any, .any, .any, .any, .any, .any, .any, .any, .any, .any], [(1, .cells [.int .i64 (.f1 0 (.var 0)), .int .i64 (.f1 1 (.var 0)), .int .i64 (.f1 2 (.var 0)), .int .i64 (.f1 3 (.var 0)), .int .i64 (.f1 4 (.var 0)), .int .i64 (.f1 5 (.var 0)), .int .i64 (.f1 6 (.var 0)), .ptr 3 (.int 0), .int .i64 (.int 0)]), (3, .res 0 (.var 6)), (4, .inp [(.int .i64), (.int .i64), (.int .i64)] (.var 1) (.var 2) (.var 3))], 5, [((.o2 .lss (.var 7) (.int 12)), false), ((.o2 .lss (.var 7) (.o1 .nat (.o1 (.lenR 3) (.var 2)))), true)]⟩
def lStp_7 : St := ⟨[.one (.c (.slice 4 (.var 1) (.o1 (.lenR 3) (.var 2)) (.var 4))), .any, .any, .one (.c (.ptr 1 (.int 0))), .one (.c (xu 5)), .any, .one (.c (xi 7)), .any, .any, .any, .any, .any, .any, .any, .any, .any, .any, .any, .any, .any, .any, .any, .any, .one (.c (xi 7)), .one (.c (.slice 4 (.var 1) (.o1 (.lenR 3) (.var 2)) (.var 4))), .one (.c (.int .i64 (.o1 .nat (.o1 (.lenR 3) (.var 2))))), .one (.c (.bool (.o2 .lss (.var 7) (.o1 .nat (.o1 (.lenR 3) (.var 2)))))), .one (.c (.bool (.o2 .lss (.var 7) (.o1 .nat (.o1 (.lenR 3) (.var 2)))))), .tup [], .tup [], .one (.c (.bool (.bool false))), .any, .any, .any, .any, .any, .any, .any, .any, .any, .any, .any, .any, .any, .any, .any, .any, .any, .any, .any, .any, .any, .any, .any, .any, .any, .any, .any, .any, .any, .any, .any, .any, .any, .any, .any, .any, .any, .any, .any, .any, .any, .any, .any, .any, .any, .any, .any, .any, .any, .any, .any, .any, .any, .any, .any, .any, .any, .any, .any, .any, .any, .any, .any, .any, .any, .any, .any], [(1, .cells [.int .i64 (.f1 0 (.var 0)), .int .i64 (.f1 1 (.var 0)), .int .i64 (.f1 2 (.var 0)), .int .i64 (.f1 3 (.var 0)), .int .i64 (.f1 4 (.var 0)), .int .i64 (.f1 5 (.var 0)), .int .i64 (.f1 6 (.var 0)), .ptr 3 (.int 0), .int .i64 (.int 0)]), (3, .res 0 (.var 6)), (4, .inp [(.int .i64), (.int .i64), (.int .i64)] (.var 1) (.var 2) (.var 3))], 5, [((.o2 .lss (.var 7) (.o1 .nat (.o1 (.lenR 3) (.var 2)))), false)]⟩
def lStp_ls : List Leaf := [(.fail, lStp_0), (.ret, lStp_1), (.norm, lStp_2), (.ret, lStp_3), (.fail, lStp_4), (.fail, lStp_5), ((.exit 0), lStp_6), ((.exit 0), lStp_7)]
end Go.Fl

/- ListSteps: its loops, shown. -/
namespace Go.Fl
open Go Go.Sx Go.Proofs
set_option maxRecDepth 100000
set_option linter.unusedVariables false

theorem ptN {v : V} {pa : Path} (h : PT SG v pa) (i : Nat) {e : E} {b : Bool} (hi : pa[i]? = some (e, b)) : (e.den SG v).toBool = b := h (e, b) (List.mem_of_getElem? hi)
theorem loop_okL {tm : CH} (htm : CallOK SG prog tm) {f : Nat} {p : List Nat} {t : LoopT} {ls : List Leaf} {lh : LH} (hlh : LoopOK SG prog (loopAt f p) lh) (μ : V → Nat)
    (hls : execL tab (callX tab tm 20 20) 20 (loopAt f p) lh ⟨t.tm, t.pre, t.nx, []⟩ = some ls) (hnx : t.outs.all (fun y => decide (t.nx ≤ y.2.nx)) = true)
    (h : AllL ls fun x => ∀ v : V, PT SG v x.2.pa → ReqL t v → RoundOK SG t μ x v) : t.ok SG prog (loopAt f p) :=
  LoopT.ok_of (fun Q st ls n o w a h1 h2 h3 => execL_sound tab_ok (callX_sound tab_ok htm 20 20) 20 _ lh hlh Q st ls n o w a h1 h2 h3) hls μ hnx h

/-! ### the inner one -/
def μC (v : V) : Nat := (5000 - (v 9).toInt).toNat
abbrev lsV (v : V) := listStep (gcfg (v 0)) 0 (glst (v 8)) (gmem (v 7))
abbrev rcV (v : V) (k : Nat) := runChk (gcfg (v 0)) 0 k (glst (v 8)) (gmem (v 7))
theorem chkE_den (v : V) : chkE.den SG v = .u (.pair (.bool (rcV v (5000 - (v 9).toInt).toNat).1) (.lm (rcV v (5000 - (v 9).toInt).toNat).2.1 (rcV v (5000 - (v 9).toInt).toNat).2.2)) := rfl
theorem chk_ret {s : St} {v : V} (h0 : ¬ (v 9).toInt < 0) (hi : (v 9).toInt < 5000) (hb : chkBad (gcfg (v 0)) (gmem (v 7)) (lsV v).2.1 = true) (ht : tmSame (tms 98 [(2, bE (.bool false))]) s.tm = true) : RoundOK SG lChk μC (.ret, s) v := by
  refine round_ret (.tail _ (.head _)) ht (ends_nil _ _) fun x hx => ?_
  rw [List.mem_singleton.1 hx]
  obtain ⟨hk, _⟩ := toNat_on h0 hi (by decide)
  show (gfst (chkE.den SG v)).toBool = false
  rw [chkE_den, hk]
  simp only [runChk, hb, if_true]; rfl
theorem chk_exit {s : St} {v : V} (h0 : ¬ (v 9).toInt < 0) (hi : (v 9).toInt < 5000) (hb : chkBad (gcfg (v 0)) (gmem (v 7)) (lsV v).2.1 = false) (hd : (lsV v).2.2 = true) (ht : tmSame (chkTm []) s.tm = true)
    (h1 : s.H.get 1 = some (envZ (.var 0) 3)) (h3 : s.H.get 3 = some (.res 0 (.f4 44 (.var 8) (.var 7) (.var 0) (.int 0)))) (h4 : s.H.get 4 = some inB) : RoundOK SG lChk μC (.exit 2, s) v := by
  obtain ⟨hk, _⟩ := toNat_on h0 hi (by decide)
  have hE := chkE_den v
  rw [hk] at hE
  simp only [runChk, hb, hd, if_true, if_false, Bool.false_eq_true] at hE
  refine round_exit (.head _) ht (ends_cons h1 (eqv_rfl _ _) <| ends_cons h3 (Blk.eqv_res ?_) <| ends_cons h4 (eqv_rfl _ _) <| ends_nil _ _) fun x hx => ?_
  · show G.u (U.mem (lsV v).2.1) = G.u (U.mem (glm (gsnd (chkE.den SG v))).2)
    rw [hE]; rfl
  · rw [List.mem_singleton.1 hx]
    show (gfst (chkE.den SG v)).toBool = true
    rw [hE]; rfl
theorem chk_norm {s : St} {v : V} (h0 : ¬ (v 9).toInt < 0) (hi : (v 9).toInt < 5000) (hb : chkBad (gcfg (v 0)) (gmem (v 7)) (lsV v).2.1 = false) (hd : (lsV v).2.2 = false)
    (ht : tmFit (fun j => match j with | 7 => .f4 44 (.var 8) (.var 7) (.var 0) (.int 0) | 8 => .f4 43 (.var 8) (.var 7) (.var 0) (.int 0) | 9 => .o2 (.arith .add .i64) (.var 9) (.int 1) | j => .var j) id lChk.tm s.tm = true)
    (h1 : s.H.get 1 = some (envZ (.var 0) 3)) (h2 : s.H.get 2 = some (.res 8 (.f4 43 (.var 8) (.var 7) (.var 0) (.int 0)))) (h3 : s.H.get 3 = some (.res 0 (.f4 44 (.var 8) (.var 7) (.var 0) (.int 0)))) (h4 : s.H.get 4 = some inB) : RoundOK SG lChk μC (.norm, s) v := by
  obtain ⟨hk, hs⟩ := toNat_on h0 hi (by decide)
  have hr : rcV v (5000 - (v 9).toInt).toNat = runChk (gcfg (v 0)) 0 (5000 - i64 ((v 9).toInt + 1)).toNat (lsV v).1 (lsV v).2.1 := by
    rw [hk]
    simp only [rcV, runChk, hb, hd, if_false, Bool.false_eq_true]
  have key : chkE.den SG (fun j => ((fun j => match j with | 7 => .f4 44 (.var 8) (.var 7) (.var 0) (.int 0) | 8 => .f4 43 (.var 8) (.var 7) (.var 0) (.int 0) | 9 => .o2 (.arith .add .i64) (.var 9) (.int 1) | j => .var j : Nat → E) j).den SG v) = chkE.den SG v := by
    rw [chkE_den v, hr]; rfl
  refine round_on' 7 [.f1 108 (.f1 98 chkE), .f1 97 chkE] _ ht (pcs_cons h1 (eqv_rfl _ _) <| pcs_cons h2 (eqv_rfl _ _) <| pcs_cons h3 (eqv_rfl _ _) <| pcs_cons h4 (eqv_rfl _ _) <| pcs_nil _ _ _) ?_ ?_ (by kernel_rfl) ?_ ?_
  · show (5000 - i64 ((v 9).toInt + 1)).toNat < (5000 - (v 9).toInt).toNat
    omega
  · intro y hy hf
    rcases List.mem_cons.1 hy with rfl | hy
    · cases hf
    · rcases List.mem_cons.1 hy with rfl | hy
      · cases hf
      · rw [List.mem_singleton.1 hy]
        intro hc
        have : i64 ((v 9).toInt + 1) < 0 := of_dec_t (pt1 hc)
        omega
  · intro i hi
    match i, hi with
    | 0, _ => rfl
    | 1, _ => rfl
    | 2, _ => rfl
    | 3, _ => rfl
    | 4, _ => rfl
    | 5, _ => rfl
    | 6, _ => rfl
  · intro e he
    rcases List.mem_cons.1 he with rfl | he
    · exact congrArg (fun r => F1 108 (F1 98 r)) key
    · rw [List.mem_singleton.1 he]
      exact congrArg (fun r => F1 97 r) key
theorem pin0 : pinAt 0 = 6 := by decide
theorem lChk_ok : lChk.ok SG prog (loopAt 11 pIn) := by
  have hreq : ∀ v : V, ReqL lChk v → ¬ (v 9).toInt < 0 := fun v hq h => hq _ (.tail _ (.tail _ (.head _))) rfl fun x hx => by rw [List.mem_singleton.1 hx]; exact decide_eq_true h
  refine loop_ok tm14s_ok (ls := lChk_ls) μC (by kernel_rfl) (by kernel_rfl) (allL_cons ?_ <| allL_cons ?_ <| allL_cons ?_ <| allL_cons ?_ <| allL_cons ?_ <| allL_cons ?_ <| allL_cons ?_ <| allL_cons ?_ <| allL_cons ?_ <| allL_nil _)
  all_goals intro v hp hq
  · have a1 : ltI (i64 ((gmem (v 7)).steps + 1)) (lsV v).2.1.steps = true := ptN hp 0 rfl
    exact chk_ret (hreq v hq) (of_dec_t (ptN hp 1 rfl)) (by simp only [chkBad, a1, Bool.true_or]) (by kernel_rfl)
  · have a0 : (lsV v).2.2 = true := ptN hp 0 rfl
    have a1 : ltI (ofAt (gcfg (v 0)) (lsV v).2.1.la) 0 = true := ptN hp 1 rfl
    have a2 : ltI (gmem (v 7)).steps (lsV v).2.1.steps = true := ptN hp 2 rfl
    have a3 : ltI (i64 ((gmem (v 7)).steps + 1)) (lsV v).2.1.steps = false := ptN hp 3 rfl
    exact chk_exit (hreq v hq) (of_dec_t (ptN hp 4 rfl)) (by simp only [chkBad, a1, a2, a3, Bool.not_true, Bool.and_false, Bool.false_and, Bool.or_false]) a0 (by kernel_rfl) rfl rfl rfl
  · have a0 : (lsV v).2.2 = false := ptN hp 0 rfl
    have a1 : ltI (ofAt (gcfg (v 0)) (lsV v).2.1.la) 0 = true := ptN hp 1 rfl
    have a2 : ltI (gmem (v 7)).steps (lsV v).2.1.steps = true := ptN hp 2 rfl
    have a3 : ltI (i64 ((gmem (v 7)).steps + 1)) (lsV v).2.1.steps = false := ptN hp 3 rfl
    exact chk_norm (hreq v hq) (of_dec_t (ptN hp 4 rfl)) (by simp only [chkBad, a1, a2, a3, Bool.not_true, Bool.and_false, Bool.false_and, Bool.or_false]) a0 (by kernel_rfl) rfl rfl rfl rfl
  · have a0 : ((lsV v).2.1.val 6 == 0) = true := ptN hp 0 rfl
    have a1 : ltI (ofAt (gcfg (v 0)) (lsV v).2.1.la) 0 = false := ptN hp 1 rfl
    have a2 : ltI (gmem (v 7)).steps (lsV v).2.1.steps = true := ptN hp 2 rfl
    have a3 : ltI (i64 ((gmem (v 7)).steps + 1)) (lsV v).2.1.steps = false := ptN hp 3 rfl
    exact chk_ret (hreq v hq) (of_dec_t (ptN hp 4 rfl)) (by simp only [chkBad, pin0, a0, a1, a2, a3, Bool.not_false, Bool.and_true, Bool.or_true]) (by kernel_rfl)
  · have a0 : (lsV v).2.2 = true := ptN hp 0 rfl
    have a4 : ((lsV v).2.1.val 6 == 0) = false := ptN hp 1 rfl
    have a1 : ltI (ofAt (gcfg (v 0)) (lsV v).2.1.la) 0 = false := ptN hp 2 rfl
    have a2 : ltI (gmem (v 7)).steps (lsV v).2.1.steps = true := ptN hp 3 rfl
    have a3 : ltI (i64 ((gmem (v 7)).steps + 1)) (lsV v).2.1.steps = false := ptN hp 4 rfl
    exact chk_exit (hreq v hq) (of_dec_t (ptN hp 5 rfl)) (by simp only [chkBad, pin0, a4, a1, a2, a3, Bool.not_false, Bool.and_true, Bool.and_false, Bool.or_false]) a0 (by kernel_rfl) rfl rfl rfl
  · have a0 : (lsV v).2.2 = false := ptN hp 0 rfl
    have a4 : ((lsV v).2.1.val 6 == 0) = false := ptN hp 1 rfl
    have a1 : ltI (ofAt (gcfg (v 0)) (lsV v).2.1.la) 0 = false := ptN hp 2 rfl
    have a2 : ltI (gmem (v 7)).steps (lsV v).2.1.steps = true := ptN hp 3 rfl
    have a3 : ltI (i64 ((gmem (v 7)).steps + 1)) (lsV v).2.1.steps = false := ptN hp 4 rfl
    exact chk_norm (hreq v hq) (of_dec_t (ptN hp 5 rfl)) (by simp only [chkBad, pin0, a4, a1, a2, a3, Bool.not_false, Bool.and_true, Bool.and_false, Bool.or_false]) a0 (by kernel_rfl) rfl rfl rfl rfl
  · have a0 : (lsV v).2.2 = true := ptN hp 0 rfl
    have a2 : ltI (gmem (v 7)).steps (lsV v).2.1.steps = false := ptN hp 1 rfl
    have a3 : ltI (i64 ((gmem (v 7)).steps + 1)) (lsV v).2.1.steps = false := ptN hp 2 rfl
    exact chk_exit (hreq v hq) (of_dec_t (ptN hp 3 rfl)) (by simp only [chkBad, a2, a3, Bool.false_and, Bool.or_false]) a0 (by kernel_rfl) rfl rfl rfl
  · have a0 : (lsV v).2.2 = false := ptN hp 0 rfl
    have a2 : ltI (gmem (v 7)).steps (lsV v).2.1.steps = false := ptN hp 1 rfl
    have a3 : ltI (i64 ((gmem (v 7)).steps + 1)) (lsV v).2.1.steps = false := ptN hp 2 rfl
    exact chk_norm (hreq v hq) (of_dec_t (ptN hp 3 rfl)) (by simp only [chkBad, a2, a3, Bool.false_and, Bool.or_false]) a0 (by kernel_rfl) rfl rfl rfl rfl
  · have hi : ¬ (v 9).toInt < 5000 := of_dec_f (ptN hp 0 rfl)
    have hk : (5000 - (v 9).toInt).toNat = 0 := by omega
    have hE := chkE_den v
    rw [hk] at hE
    simp only [runChk] at hE
    refine round_exit (.head _) (by kernel_rfl) (ends_cons rfl (eqv_rfl _ _) <| ends_cons rfl (wf_mem ?_) <| ends_cons rfl (eqv_rfl _ _) <| ends_nil _ _) fun x hx => ?_
    · show _ = G.u (U.mem (glm (gsnd (chkE.den SG v))).2)
      rw [hE]; rfl
    · rw [List.mem_singleton.1 hx]
      show (gfst (chkE.den SG v)).toBool = true
      rw [hE]; rfl
end Go.Fl

/- ListSteps: its outer loop, shown. -/
namespace Go.Fl
open Go Go.Sx Go.Proofs
set_option maxRecDepth 100000
set_option linter.unusedVariables false

def μS (v : V) : Nat := (12 - (v 7).toInt).toNat
def kdE : E := .o2 (.arith .add .i64) (.int 1) (.o2 (.div .rem .i64) (.o2 (.arith .add .i64) (.o2 (.div .rem .i64) (.o2 (.nthR 3 1) (.var 2) (.var 7)) (.int 3)) (.int 3)) (.int 3))
def kyE : E := .o2 (.bits .and .i64) (.o2 (.nthR 3 2) (.var 2) (.var 7)) (.int 7)
def oneE : E := .f3 200 (.f2 60 (.var 0) (.int 0)) (.f2 62 (.f3 5 kdE kyE (.var 5)) (.var 6)) (.int 0)
abbrev kdV (v : V) : Int := kindW ((v 2).toInts.getD ((v 7).toInt.toNat * 3 + 1) 0)
abbrev kyV (v : V) : Int := keyW ((v 2).toInts.getD ((v 7).toInt.toNat * 3 + 2) 0)
abbrev oneV (v : V) := runChk (gcfg (v 0)) 0 5000 (listNew (kdV v) (kyV v) (v 5).toInt) (gmem (v 6))
theorem fifty : ((5000 : Int) - 0).toNat = 5000 := by decide
theorem oneE_den (v : V) : oneE.den SG v = .u (.pair (.bool (oneV v).1) (.lm (oneV v).2.1 (oneV v).2.2)) := by
  show G.u (U.pair (.bool (runChk (gcfg (v 0)) 0 ((5000 : Int) - 0).toNat (listNew (kdV v) (kyV v) (v 5).toInt) (gmem (v 6))).1)
    (.lm (runChk (gcfg (v 0)) 0 ((5000 : Int) - 0).toNat (listNew (kdV v) (kyV v) (v 5).toInt) (gmem (v 6))).2.1 (runChk (gcfg (v 0)) 0 ((5000 : Int) - 0).toNat (listNew (kdV v) (kyV v) (v 5).toInt) (gmem (v 6))).2.2)) = _
  rw [fifty]
abbrev goV (v : V) (k : Nat) := stepsGo (gcfg (v 0)) (v 5).toInt (v 2).toInts k (v 7).toInt (gmem (v 6))
theorem stpE_den (v : V) : stpE.den SG v = .u (.pair (.bool (goV v (12 - (v 7).toInt).toNat).1) (.mem (goV v (12 - (v 7).toInt).toNat).2)) := rfl
theorem go_on {v : V} {k : Nat} (hl : ltI (v 7).toInt (((v 2).toInts.length / 3 : Nat) : Int) = true) :
    goV v (k + 1) = if (stepOne (gcfg (v 0)) (v 5).toInt ((v 2).toInts.getD ((v 7).toInt.toNat * 3 + 1) 0) ((v 2).toInts.getD ((v 7).toInt.toNat * 3 + 2) 0) (gmem (v 6))).1 then
      stepsGo (gcfg (v 0)) (v 5).toInt (v 2).toInts k (i64 ((v 7).toInt + 1)) (stepOne (gcfg (v 0)) (v 5).toInt ((v 2).toInts.getD ((v 7).toInt.toNat * 3 + 1) 0) ((v 2).toInts.getD ((v 7).toInt.toNat * 3 + 2) 0) (gmem (v 6))).2
    else stepOne (gcfg (v 0)) (v 5).toInt ((v 2).toInts.getD ((v 7).toInt.toNat * 3 + 1) 0) ((v 2).toInts.getD ((v 7).toInt.toNat * 3 + 2) 0) (gmem (v 6)) := by
  simp only [goV, stepsGo, hl, if_true]
theorem go_end {v : V} {k : Nat} (hl : ltI (v 7).toInt (((v 2).toInts.length / 3 : Nat) : Int) = false) : goV v k = (true, gmem (v 6)) := by
  cases k with
  | zero => rfl
  | succ k => simp only [goV, stepsGo, hl, Bool.false_eq_true, if_false]
theorem one_bad {v : V} (h : listCheck (kdV v) (kyV v) = false) : stepOne (gcfg (v 0)) (v 5).toInt ((v 2).toInts.getD ((v 7).toInt.toNat * 3 + 1) 0) ((v 2).toInts.getD ((v 7).toInt.toNat * 3 + 2) 0) (gmem (v 6)) = (false, gmem (v 6)) := by
  simp only [stepOne, h, Bool.false_eq_true, if_false]
theorem one_good {v : V} (h : listCheck (kdV v) (kyV v) = true) : stepOne (gcfg (v 0)) (v 5).toInt ((v 2).toInts.getD ((v 7).toInt.toNat * 3 + 1) 0) ((v 2).toInts.getD ((v 7).toInt.toNat * 3 + 2) 0) (gmem (v 6)) = ((oneV v).1, (oneV v).2.2) := by
  simp only [stepOne, h, if_true]
theorem stp_ret {s : St} {v : V} {k : Nat} (hk : (12 - (v 7).toInt).toNat = k) (hb : (goV v k).1 = false) (ht : tmSame (tms 98 [(2, bE (.bool false))]) s.tm = true) : RoundOK SG lStp μS (.ret, s) v := by
  refine round_ret (.tail _ (.head _)) ht (ends_nil _ _) fun x hx => ?_
  rw [List.mem_singleton.1 hx]
  show (gfst (stpE.den SG v)).toBool = false
  rw [stpE_den, hk, hb]; rfl
theorem stp_exit {s : St} {v : V} (h : goV v (12 - (v 7).toInt).toNat = (true, gmem (v 6))) (ht : tmSame (stpTm []) s.tm = true)
    (h1 : s.H.get 1 = some (envZ (.var 0) 3)) (h3 : s.H.get 3 = some (.res 0 (.var 6))) (h4 : s.H.get 4 = some inB) : RoundOK SG lStp μS (.exit 0, s) v := by
  refine round_exit (.head _) ht (ends_cons h1 (eqv_rfl _ _) <| ends_cons h3 (wf_mem ?_) <| ends_cons h4 (eqv_rfl _ _) <| ends_nil _ _) fun x hx => ?_
  · show _ = gsnd (stpE.den SG v)
    rw [stpE_den, h]; rfl
  · rw [List.mem_singleton.1 hx]
    show (gfst (stpE.den SG v)).toBool = true
    rw [stpE_den, h]; rfl
theorem in_loop : codeAt (loopAt 11 pOut) pRel = some (.loop (loopAt 11 pIn)) := by kernel_rfl
theorem lhIn_ok : LoopOK SG prog (loopAt 11 pOut) lhIn := lhOf_ok fun x hx body hb => by
  rw [List.mem_singleton.1 hx] at hb ⊢
  simp only [in_loop, Option.some.injEq, Code.loop.injEq] at hb
  rw [← hb]; exact lChk_ok
theorem lStp_ok : lStp.ok SG prog (loopAt 11 pOut) := by
  have hreq : ∀ v : V, ReqL lStp v → ¬ (v 7).toInt < 0 := fun v hq h => hq _ (.tail _ (.tail _ (.head _))) rfl fun x hx => by rw [List.mem_singleton.1 hx]; exact decide_eq_true h
  refine loop_okL tm14s_ok lhIn_ok (ls := lStp_ls) μS (by kernel_rfl) (by kernel_rfl) (allL_cons ?_ <| allL_cons ?_ <| allL_cons ?_ <| allL_cons ?_ <| allL_cons ?_ <| allL_cons ?_ <| allL_cons ?_ <| allL_cons ?_ <| allL_nil _)
  all_goals intro v hp hq
  · exact absurd (of_dec_t (ptN hp 0 rfl)) (hreq v hq)
  · have hi : (v 7).toInt < 12 := of_dec_t (ptN hp 3 rfl)
    have hl : ltI (v 7).toInt (((v 2).toInts.length / 3 : Nat) : Int) = true := ptN hp 1 rfl
    have hc : listCheck (kdV v) (kyV v) = false := ptN hp 0 rfl
    obtain ⟨hk, _⟩ := toNat_on (hreq v hq) hi (by decide)
    exact stp_ret hk (by rw [go_on hl, one_bad hc]; rfl) (by kernel_rfl)
  · have hi : (v 7).toInt < 12 := of_dec_t (ptN hp 4 rfl)
    have hl : ltI (v 7).toInt (((v 2).toInts.length / 3 : Nat) : Int) = true := ptN hp 2 rfl
    have hc : listCheck (kdV v) (kyV v) = true := ptN hp 1 rfl
    have hr : (gfst (oneE.den SG v)).toBool = true := ptN hp 0 rfl
    rw [oneE_den] at hr
    have hr : (oneV v).1 = true := hr
    obtain ⟨hk, hs⟩ := toNat_on (hreq v hq) hi (by decide)
    have hgo : goV v (12 - (v 7).toInt).toNat = stepsGo (gcfg (v 0)) (v 5).toInt (v 2).toInts (12 - i64 ((v 7).toInt + 1)).toNat (i64 ((v 7).toInt + 1)) (oneV v).2.2 := by
      rw [hk, go_on hl, one_good hc]
      simp only [hr, if_true]
    have hm : G.u (U.mem (oneV v).2.2) = F1 108 (F1 98 (oneE.den SG v)) := by rw [oneE_den]; rfl
    have key : stpE.den SG (fun j => ((fun j => match j with | 6 => .f1 108 (.f1 98 oneE) | 7 => .o2 (.arith .add .i64) (.var 7) (.int 1) | j => .var j : Nat → E) j).den SG v) = stpE.den SG v := by
      rw [stpE_den v, hgo]
      show F4 200 (F2 60 (v 0) (v 5)) (F1 108 (F1 98 (oneE.den SG v))) (v 2) (.int (i64 ((v 7).toInt + 1))) = _
      rw [← hm]; rfl
    refine round_on' 6 [.f1 98 stpE, .f1 97 stpE] (fun j => match j with | 6 => .f1 108 (.f1 98 oneE) | 7 => .o2 (.arith .add .i64) (.var 7) (.int 1) | j => .var j) (by kernel_rfl) (pcs_cons rfl (eqv_rfl _ _) <| pcs_cons rfl (eqv_rfl _ _) <| pcs_cons rfl (eqv_rfl _ _) <| pcs_nil _ _ _) ?_ ?_ (by kernel_rfl) ?_ ?_
    · show (12 - i64 ((v 7).toInt + 1)).toNat < (12 - (v 7).toInt).toNat
      omega
    · intro y hy hf
      rcases List.mem_cons.1 hy with rfl | hy
      · cases hf
      · rcases List.mem_cons.1 hy with rfl | hy
        · cases hf
        · rw [List.mem_singleton.1 hy]
          intro hc
          have : i64 ((v 7).toInt + 1) < 0 := of_dec_t (pt1 hc)
          have := hreq v hq
          omega
    · intro i hi
      match i, hi with
      | 0, _ => rfl
      | 1, _ => rfl
      | 2, _ => rfl
      | 3, _ => rfl
      | 4, _ => rfl
      | 5, _ => rfl
    · intro e he
      rcases List.mem_cons.1 he with rfl | he
      · exact congrArg (fun r => F1 98 r) key
      · rw [List.mem_singleton.1 he]
        exact congrArg (fun r => F1 97 r) key
  · have hi : (v 7).toInt < 12 := of_dec_t (ptN hp 4 rfl)
    have hl : ltI (v 7).toInt (((v 2).toInts.length / 3 : Nat) : Int) = true := ptN hp 2 rfl
    have hc : listCheck (kdV v) (kyV v) = true := ptN hp 1 rfl
    have hr : (gfst (oneE.den SG v)).toBool = false := ptN hp 0 rfl
    rw [oneE_den] at hr
    have hr : (oneV v).1 = false := hr
    obtain ⟨hk, _⟩ := toNat_on (hreq v hq) hi (by decide)
    exact stp_ret hk (by rw [go_on hl, one_good hc]; simp only [hr, Bool.false_eq_true, if_false]) (by kernel_rfl)
  · have : (decide ((0 : Int) < 0)) = true := ptN hp 0 rfl
    cases this
  · have h1 : ¬ (v 7).toInt < (((v 2).toInts.length / 3 : Nat) : Int) := of_dec_f (ptN hp 0 rfl)
    have h2 : (v 7).toInt < (((((v 2).toInts.length / 3 : Nat) : Int).toNat : Nat) : Int) := of_dec_t (ptN hp 3 rfl)
    rw [Int.toNat_natCast] at h2
    exact absurd h2 h1
  · have hi : ¬ (v 7).toInt < 12 := of_dec_f (ptN hp 0 rfl)
    exact stp_exit (by rw [show (12 - (v 7).toInt).toNat = 0 by omega]; rfl) (by kernel_rfl) rfl rfl rfl
  · have h2 : ¬ (v 7).toInt < (((((v 2).toInts.length / 3 : Nat) : Int).toNat : Nat) : Int) := of_dec_f (ptN hp 0 rfl)
    rw [Int.toNat_natCast] at h2
    exact stp_exit (go_end (decide_eq_false h2)) (by kernel_rfl) rfl rfl rfl
end Go.Fl

/- ListSteps: the function. -/
namespace Go.Fl
open Go Go.Sx Go.Proofs
set_option maxRecDepth 100000
set_option linter.unusedVariables false

theorem at_Steps : CallAt SG prog 11 (callL tab tm14s 20 20 lhOut 11) := callL_at tab_ok tm14s_ok (lh_ok fun x hx => by rw [List.mem_singleton.1 hx]; exact lStp_ok)
def gSteps : GSpec := ⟨[slV 4 (.var 1) (.var 2) (.var 4)], [(4, inB)], 5, [⟨bE (.bool true), none, [(4, inB)], 5, []⟩], []⟩
def gStepsN : GSpec := ⟨[.one (.c .nils)], [], 1, [val (bE (.bool true))], []⟩
def c30E : E := c16 (.int 30)
def bgE : E := begE c30E
def thE : E := .f4 200 (.f2 60 c30E (.f1 101 bgE)) (.f1 104 bgE) (.var 2) (.int 0)
theorem bgE_den (v : V) : bgE.den SG v = pdm (begunD 30) := rfl
attribute [local irreducible] begunD stepsGo
theorem bg_e (v : V) : E.den SG v (.f1 100 bgE) = .int (begunD 30).1.e := by
  show F1 100 (bgE.den SG v) = _
  rw [bgE_den]; rfl
theorem bg_h (v : V) : E.den SG v (.f1 101 bgE) = .int (begunD 30).1.handle := by
  show F1 101 (bgE.den SG v) = _
  rw [bgE_den]; rfl
theorem bg_m (v : V) : E.den SG v (.f1 104 bgE) = .u (.mem (begunD 30).2) := by
  show F1 104 (bgE.den SG v) = _
  rw [bgE_den]; rfl
theorem c30_den (v : V) : E.den SG v c30E = .u (.cfg (cfgA 4 30 12 40)) := rfl
theorem f4_200 (c : Cfg) (h : Int) (m : Mem) (g : GU) : F4 200 (.u (.cw c h)) (.u (.mem m)) g (.int 0) = .u (.pair (.bool (stepsGo c h g.toInts ((12 : Int) - 0).toNat 0 m).1) (.mem (stepsGo c h g.toInts ((12 : Int) - 0).toNat 0 m).2)) := rfl
theorem twelve : ((12 : Int) - 0).toNat = 12 := by decide
theorem thE_den (v : V) : thE.den SG v = .u (.pair (.bool (stepsGo (cfgA 4 30 12 40) (begunD 30).1.handle (v 2).toInts 12 0 (begunD 30).2).1) (.mem (stepsGo (cfgA 4 30 12 40) (begunD 30).1.handle (v 2).toInts 12 0 (begunD 30).2).2)) := by
  show F4 200 (F2 60 (E.den SG v c30E) (E.den SG v (.f1 101 bgE))) (E.den SG v (.f1 104 bgE)) (v 2) (.int 0) = _
  rw [c30_den, bg_h, bg_m]
  show F4 200 (.u (.cw (cfgA 4 30 12 40) (begunD 30).1.handle)) (.u (.mem (begunD 30).2)) (v 2) (.int 0) = _
  rw [f4_200, twelve]
theorem beg_no {v : V} {pa : Path} (hp : PT SG v pa) (i : Nat) (hi : pa[i]? = some (.o2 .eql (.f1 100 bgE) (.int 0), false)) : False := by
  have h := ptN hp i hi
  rw [show E.den SG v (.o2 .eql (.f1 100 bgE) (.int 0)) = O2.eql.ap (E.den SG v (.f1 100 bgE)) (.int 0) from rfl, bg_e, (steps_law []).1] at h
  cases h
theorem cfg_no {v : V} {pa : Path} (hp : PT SG v pa) (i : Nat) (hi : pa[i]? = some (.f1 92 c30E, false)) : False := by
  have h := ptN hp i hi
  rw [show E.den SG v (.f1 92 c30E) = F1 92 (E.den SG v c30E) from rfl, c30_den] at h
  have h : cfgCheck (cfgA 4 30 12 40) = false := h
  exact absurd h (by decide)
theorem th_no {v : V} {pa : Path} (hp : PT SG v pa) (i : Nat) (hi : pa[i]? = some (.f1 97 thE, false)) : False := by
  have h := ptN hp i hi
  obtain ⟨_, m', h1, _⟩ := steps_law (v 2).toInts
  rw [show E.den SG v (.f1 97 thE) = gfst (E.den SG v thE) from rfl, thE_den, h1] at h
  cases h
def stC : List CO := [
  ⟨true, bE (.o2 .eql (.f2 20 (.f1 98 thE) (.int 6)) (.int 0)), [(4, inB)], 22, [(.f1 97 thE, true), (.o2 .eql (.f1 100 bgE) (.int 0), true)]⟩,
  ⟨true, bE (.bool false), [], 16, [(.f1 97 thE, false), (.o2 .eql (.f1 100 bgE) (.int 0), true)]⟩,
  ⟨false, .tup [], [], 0, [(.o2 .lss (.int 0) (.int 0), true), (.o2 .eql (.f1 100 bgE) (.int 0), true)]⟩,
  ⟨true, bE (.bool false), [(4, inB)], 16, [(.o2 .eql (.f1 100 bgE) (.int 0), false)]⟩,
  ⟨false, .tup [], [], 0, [(.f1 92 c30E, false)]⟩]
theorem gSteps_ok : gSteps.t.ok SG prog 11 := by
  refine GSpec.ok at_Steps gSteps (by kernel_rfl) ⟨stC, by as_aux_lemma => kernel_rfl,
    allC_cons (fun v hp hq => ?_) <| allC_cons (gNo fun n hp hq => th_no hp 0 rfl) <| allC_cons (gNo fun n hp hq => ?_) <| allC_cons (gNo fun n hp hq => beg_no hp 0 rfl) <| allC_cons (gNo fun n hp hq => cfg_no hp 0 rfl) <| allC_nil _⟩
  · refine ⟨_, .head _, (pt_nil _).2 trivial, endOK_none rfl (fun n hn => ?_) (rest_cons rfl rfl (eqv_rfl _ _) rest_nil)⟩
    subst hn
    obtain ⟨_, m', h1, h2⟩ := steps_law (n.v 2).toInts
    show Value.bool ((gmem (gsnd (thE.den SG n.v))).val 6 == 0) = Value.bool true
    rw [thE_den, h1]
    show Value.bool (m'.val 6 == 0) = _
    rw [show m'.val 6 = 0 from h2]; rfl
  · have h : decide ((0 : Int) < 0) = true := ptN hp 0 rfl
    cases h
def stCN : List CO := [
  ⟨true, bE (.o2 .eql (.f2 20 (.f1 104 bgE) (.int 6)) (.int 0)), [], 18, [(.o2 .eql (.f1 100 bgE) (.int 0), true)]⟩,
  ⟨true, bE (.bool false), [], 12, [(.o2 .eql (.f1 100 bgE) (.int 0), false)]⟩,
  ⟨false, .tup [], [], 0, [(.f1 92 c30E, false)]⟩]
theorem begun_pin : (begunD 30).2.val 6 = 0 := by
  obtain ⟨_, m', h1, h2⟩ := steps_law []
  have e : stepsGo (cfgA 4 30 12 40) (begunD 30).1.handle [] 12 0 (begunD 30).2 = (true, (begunD 30).2) := by
    unfold stepsGo; rfl
  rw [e] at h1
  have h1 := congrArg Prod.snd h1
  rw [show (begunD 30).2 = m' from h1]
  exact h2
theorem peek_den (n : Env U) (e : E) : (bE (.o2 .eql (.f2 20 e (.int 6)) (.int 0))).den SG n = Value.bool ((gmem (e.den SG n.v)).val 6 == 0) := rfl
theorem retN (n : Env U) : (bE (.o2 .eql (.f2 20 (.f1 104 bgE) (.int 6)) (.int 0))).den SG n = (bE (.bool true)).den SG n := by
  rw [peek_den, bg_m, gmem_u, begun_pin]; rfl
theorem stCN_0 : GEnd gStepsN ⟨true, bE (.o2 .eql (.f2 20 (.f1 104 bgE) (.int 6)) (.int 0)), [], 18, [(.o2 .eql (.f1 100 bgE) (.int 0), true)]⟩ :=
  gW (x := val (bE (.bool true))) 0 rfl rfl rfl rfl fun n _ _ => And.intro ((pt_nil _).2 trivial) (retN n)
set_option maxHeartbeats 4000000 in
theorem gStepsN_ok : gStepsN.t.ok SG prog 11 :=
  GSpec.ok at_Steps gStepsN (by kernel_rfl) ⟨stCN, by as_aux_lemma => kernel_rfl,
    allC_cons stCN_0 <| allC_cons (gNo fun n hp hq => beg_no hp 0 rfl) <| allC_cons (gNo fun n hp hq => cfg_no hp 0 rfl) <| allC_nil _⟩
end Go.Fl
