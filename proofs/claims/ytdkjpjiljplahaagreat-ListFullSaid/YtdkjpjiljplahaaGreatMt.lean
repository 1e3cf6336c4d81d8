/- Each step of a list touches one word at most: what it comes to, in plain Lean. -/
import Derived.Test.YtdkjpjiljplahaaGreatMq
import Derived.Test.YtdkjpjiljplahaaGreatMk
namespace Go.Fl
open Go Go.Sx
set_option linter.unusedVariables false
set_option linter.unusedSimpArgs false
set_option linter.unusedSectionVars false

theorem ltT (a b : Int) : ltI a b = true ↔ a < b := by simp [ltI]
theorem ltF (a b : Int) : ltI a b = false ↔ ¬ a < b := by simp [ltI]
section
variable {c : Cfg} {A A' : Ab} {m m' : Mem} {who : Int} {head K : Int} {ns : List (Int × Int)} (hc : CfgOK c) (hw0 : 0 ≤ who) (hw1 : who < c.threads)
include hc hw0 hw1
/-- whatever is asked of a list -/
theorem op_any (li : LI c A head ns) (rs : RS c A who m) (hK0 : 0 ≤ K) (hK1 : K < 1073741824) {kd : Int} (hkd : kd = 1 ∨ kd = 2 ∨ kd = 3) :
    ∃ n l' m' A' ns', n ≤ 300 * ns.length + 2000 ∧ Ends (listStep c who) (QA c who) n (listNew kd K head) m l' m' ∧ RS c A' who m' ∧ LI c A' head ns' ∧ ∀ q ∈ ns', q.2 = K ∨ q ∈ ns := by
  rcases hkd with rfl | rfl | rfl
  · obtain ⟨n, l', m', h1, h2, h3, _⟩ := op_has hc hw0 hw1 (K := K) li rs
    exact ⟨n, l', m', A, ns, by omega, h2, h3, li, fun q hq => .inr hq⟩
  · obtain ⟨n, l', m', A', h1, h2, h3, h4⟩ := op_add hc hw0 hw1 (K := K) li rs hK0 hK1
    rcases h4 with ⟨_, rfl, _⟩ | ⟨_, rfl, _⟩ | ⟨_, rfl, _⟩ | ⟨_, ⟨ns', hn, hj⟩, _⟩
    · exact ⟨n, l', m', _, ns, h1, h2, h3, li, fun q hq => .inr hq⟩
    · exact ⟨n, l', m', _, ns, h1, h2, h3, li, fun q hq => .inr hq⟩
    · exact ⟨n, l', m', _, ns, h1, h2, h3, li, fun q hq => .inr hq⟩
    · refine ⟨n, l', m', _, ns', h1, h2, h3, hj.li, fun q hq => ?_⟩
      obtain ⟨pre, post, rfl, rfl, _⟩ := hj.split
      rcases List.mem_append.1 hq with h | h
      · exact .inr (List.mem_append_left _ h)
      · rcases List.mem_cons.1 h with rfl | h
        · exact .inl rfl
        · exact .inr (List.mem_append_right _ h)
  · obtain ⟨n, l', m', A', h1, h2, h3, _, h4⟩ := op_remove hc hw0 hw1 (K := K) li rs
    rcases h4 with ⟨_, rfl, _⟩ | ⟨_, ⟨ns', hn, hj⟩, _⟩
    · exact ⟨n, l', m', _, ns, h1, h2, h3, li, fun q hq => .inr hq⟩
    · refine ⟨n, l', m', _, ns', h1, h2, h3, hj.li, fun q hq => .inr ?_⟩
      obtain ⟨pre, post, rfl, rfl⟩ := hj.split
      rcases List.mem_append.1 hq with h | h
      · exact List.mem_append_left _ h
      · exact List.mem_append_right _ (List.mem_cons_of_mem _ h)
end

/-- what a step may not do -/
def chkBad (c : Cfg) (m m' : Mem) : Bool := ltI (i64 (m.steps + 1)) m'.steps || (ltI m.steps m'.steps && !(ltI (ofAt c m'.la) 0) && (m'.val (pinAt 0) == 0))
/-- a list's step-function, watched -/
def runChk (c : Cfg) (who : Int) : Nat → Lst → Mem → Bool × Lst × Mem
  | 0, l, m => (true, l, m)
  | k + 1, l, m => let r := listStep c who l m; if chkBad c m r.2.1 then (false, r.1, r.2.1) else if r.2.2 then (true, r.1, r.2.1) else runChk c who k r.1 r.2.1
theorem chk_ok {c : Cfg} {m m' : Mem} (h : QA c 0 m m') (h0 : 0 ≤ m.steps) (h1 : m.steps < 1000000) : chkBad c m m' = false ∧ 0 ≤ m'.steps ∧ m'.steps ≤ m.steps + 1 := by
  have hp : pinAt 0 = 6 + 0 := by decide
  have e1 : i64 (m.steps + 1) = m.steps + 1 := i64_in' (by omega)
  simp only [chkBad, hp, e1]
  unfold QA at h
  rw [e1] at h
  rcases h with h | ⟨h2, h3⟩
  · rw [h]
    refine ⟨?_, h0, by omega⟩
    rw [(ltF _ _).2 (by omega), (ltF m.steps m.steps).2 (by omega)]; rfl
  · refine ⟨?_, by omega, by omega⟩
    rw [(ltF _ _).2 (by omega)]
    rcases h3 with h3 | h3
    · rw [(ltT _ _).2 h3]; simp
    · rw [show (m'.val (6 + 0) == 0) = false from beq_eq_false_iff_ne.2 h3]; simp
theorem chk_of_ends {c : Cfg} {n k : Nat} {l l' : Lst} {m m' : Mem} (h : Ends (listStep c 0) (QA c 0) n l m l' m') (hk : n < k) (h0 : 0 ≤ m.steps) (h1 : m.steps + n < 1000000) :
    runChk c 0 k l m = (true, l', m') ∧ 0 ≤ m'.steps ∧ m'.steps ≤ m.steps + n + 1 := by
  obtain ⟨a1, m1, h2, h3, h4⟩ := h
  induction h2 generalizing k with
  | refl a m0 =>
    obtain ⟨k, rfl⟩ : ∃ j, k = j + 1 := ⟨k - 1, by omega⟩
    obtain ⟨e1, e2, e3⟩ := chk_ok h4 h0 (by omega)
    refine ⟨?_, e2, by omega⟩
    simp only [runChk, h3, e1, Bool.false_eq_true, if_false, if_true]
  | step hs q r ih =>
    obtain ⟨k, rfl⟩ : ∃ j, k = j + 1 := ⟨k - 1, by omega⟩
    obtain ⟨e1, e2, e3⟩ := chk_ok q h0 (by omega)
    obtain ⟨g1, g2, g3⟩ := ih (k := k) (by omega) e2 (by omega) h3 h4
    refine ⟨?_, g2, by omega⟩
    simp only [runChk, hs, e1, Bool.false_eq_true, if_false]
    exact g1

/-- what is asked, and of which key -/
def kindW (k : Int) : Int := i64 (1 + (i64 (k.tmod 3 + 3)).tmod 3)
def keyW (k : Int) : Int := ibits .and k 7
theorem kindW_ok (k : Int) : kindW k = 1 ∨ kindW k = 2 ∨ kindW k = 3 := by
  have h1 : -2 ≤ k.tmod 3 ∧ k.tmod 3 ≤ 2 := by
    have := Int.tmod_lt_of_pos k (by decide : (0:Int) < 3)
    have := Int.lt_tmod_of_pos k (by decide : (0:Int) < 3)
    omega
  have e : i64 (k.tmod 3 + 3) = k.tmod 3 + 3 := i64_in' (by omega)
  have h2 : 0 ≤ (k.tmod 3 + 3).tmod 3 ∧ (k.tmod 3 + 3).tmod 3 < 3 := ⟨Int.tmod_nonneg _ (by omega), Int.tmod_lt_of_pos _ (by decide)⟩
  unfold kindW
  rw [e, i64_in' (by omega)]
  omega
/-- one thing is asked: is all well, what are the words -/
def stepOne (c : Cfg) (head kind key : Int) (m : Mem) : Bool × Mem :=
  if listCheck (kindW kind) (keyW key) then let r := runChk c 0 5000 (listNew (kindW kind) (keyW key) head) m; (r.1, r.2.2) else (false, m)
/-- one by one, from number i on -/
def stepsGo (c : Cfg) (head : Int) (g : List Int) : Nat → Int → Mem → Bool × Mem
  | 0, _, m => (true, m)
  | k + 1, i, m =>
    if ltI i ((g.length / 3 : Nat) : Int) then
      let r := stepOne c head (g.getD (i.toNat * 3 + 1) 0) (g.getD (i.toNat * 3 + 2) 0) m
      if r.1 then stepsGo c head g k (i64 (i + 1)) r.2 else r
    else (true, m)

theorem srt_len : ∀ (ns : List (Int × Int)) (a : Int), ns.Pairwise (fun x y => x.2 < y.2) → (∀ q ∈ ns, a ≤ q.2 ∧ q.2 < 8) → (ns.length : Int) ≤ max 0 (8 - a)
  | [], a, _, _ => by simp; omega
  | q :: r, a, h, hb => by
    have h1 := hb q (List.mem_cons_self ..)
    have h2 := srt_len r (a + 1) (List.pairwise_cons.1 h).2 fun x hx => by
      have := (List.pairwise_cons.1 h).1 x hx
      have := hb x (List.mem_cons_of_mem _ hx)
      omega
    simp only [List.length_cons]
    omega

theorem keyW_ok (k : Int) : 0 ≤ keyW k ∧ keyW k < 8 := by
  unfold keyW
  rw [iand, show ((7 : Int) % 18446744073709551616).toNat = 2 ^ 3 - 1 from rfl, Nat.and_two_pow_sub_one_eq_mod, i64_in' (by omega)]
  omega
section
variable {c : Cfg} (hc : CfgOK c)
include hc
theorem one_ok {A : Ab} {m : Mem} {head : Int} {ns : List (Int × Int)} (li : LI c A head ns) (rs : RS c A 0 m) (hk : ∀ q ∈ ns, 0 ≤ q.2 ∧ q.2 < 8) (h0 : 0 ≤ m.steps) (h1 : m.steps < 900000) (kind key : Int) :
    ∃ A' m' ns', stepOne c head kind key m = (true, m') ∧ LI c A' head ns' ∧ RS c A' 0 m' ∧ (∀ q ∈ ns', 0 ≤ q.2 ∧ q.2 < 8) ∧ 0 ≤ m'.steps ∧ m'.steps ≤ m.steps + 5000 := by
  have hlen := srt_len ns 0 li.srt hk
  have ht := hc.t0
  obtain ⟨k0, k1⟩ := keyW_ok key
  obtain ⟨n, l', m', A', ns', e1, e2, e3, e4, e5⟩ := op_any hc (Int.le_refl 0) (by omega) (K := keyW key) li rs k0 (by omega) (kindW_ok kind)
  have hl : listCheck (kindW kind) (keyW key) = true := by
    have := kindW_ok kind
    simp only [listCheck, Bool.and_eq_true, Bool.not_eq_true', ltF, ltT]
    omega
  obtain ⟨f1, f2, f3⟩ := chk_of_ends (k := 5000) e2 (by omega) h0 (by omega)
  refine ⟨A', m', ns', by simp only [stepOne, hl, if_true, f1], e4, e3, fun q hq => ?_, f2, by omega⟩
  rcases e5 q hq with h | h
  · omega
  · exact hk q h
theorem go_ok {head : Int} (g : List Int) : ∀ (k : Nat) (i : Int) {A : Ab} {m : Mem} {ns : List (Int × Int)}, LI c A head ns → RS c A 0 m → (∀ q ∈ ns, 0 ≤ q.2 ∧ q.2 < 8) → 0 ≤ m.steps → m.steps + 5000 * k < 900000 →
    ∃ m', stepsGo c head g k i m = (true, m') ∧ m'.val 6 = 0
  | 0, i, A, m, ns, li, rs, hk, h0, h1 => ⟨m, rfl, rs.pin⟩
  | k + 1, i, A, m, ns, li, rs, hk, h0, h1 => by
    simp only [stepsGo]
    split
    · obtain ⟨A', m', ns', e1, e2, e3, e4, e5, e6⟩ := one_ok hc li rs hk h0 (by omega) (g.getD (i.toNat * 3 + 1) 0) (g.getD (i.toNat * 3 + 2) 0)
      rw [e1]
      simp only [if_true]
      exact go_ok g k _ e2 e3 e4 e5 (by omega)
    · exact ⟨m, rfl, rs.pin⟩
end
theorem cfg30 : CfgOK (cfgA 4 30 12 40) := by constructor <;> decide
theorem begun30_steps : (decide ((begunD 30).2.steps < 10000) && decide (0 ≤ (begunD 30).2.steps) && (begunD 30).1.e == 0) = true := by kernel_rfl
theorem steps_law (g : List Int) : (begunD 30).1.e = 0 ∧ ∃ m', stepsGo (cfgA 4 30 12 40) (begunD 30).1.handle g 12 0 (begunD 30).2 = (true, m') ∧ m'.val (pinAt 0) = 0 := by
  obtain ⟨A, m', d, h1, h2, h3, h4, _⟩ := begun_ok cfg30
  have hs := begun30_steps
  have e : begunD 30 = (d, m') := h1
  rw [e] at hs ⊢
  simp only [Bool.and_eq_true, decide_eq_true_eq] at hs
  obtain ⟨⟨hs1, hs2⟩, _⟩ := hs
  refine ⟨h2, go_ok cfg30 g (m := m') 12 0 h4 h3 (fun q hq => by cases hq) hs2 (by omega)⟩
end Go.Fl

/- A list alone: what it tells, what it is like behind; 'sorted'. In plain Lean. -/
namespace Go.Fl
open Go Go.Sx
set_option linter.unusedVariables false
set_option linter.unusedSimpArgs false
set_option linter.unusedSectionVars false

/-! ### what 'sorted' looks at -/
/-- the value of a word of a node -/
def nodeV (c : Cfg) (m : Mem) (h j : Int) : Int := cellValue (m.val (i64 (slotAddr (m.val (slotAt c (handleSlot h))) + j)))
/-- the next one that is in, from k on -/
def skipTo (ins : List Bool) : Nat → Int → Int
  | 0, k => k
  | f + 1, k => if ltI k 16 && !(ins.getD k.toNat false) then skipTo ins f (i64 (k + 1)) else k
def restNo (ins : List Bool) : Nat → Int → Bool
  | 0, _ => true
  | f + 1, k => if ltI k 16 then (if ins.getD k.toNat false then false else restNo ins f (i64 (k + 1))) else true
def sortGo (c : Cfg) (m : Mem) (ins : List Bool) : Nat → Int → Int → Bool × Int × Int
  | 0, a, k => (true, a, k)
  | f + 1, a, k =>
    if a == 0 then (true, a, k)
    else if linkGone (nodeV c m a 2) then sortGo c m ins f (linkNext (nodeV c m a 2)) k
    else if ltI (skipTo ins (16 - k).toNat k) 16 && (nodeV c m a 1 == skipTo ins (16 - k).toNat k) then sortGo c m ins f (linkNext (nodeV c m a 2)) (i64 (skipTo ins (16 - k).toNat k + 1))
    else (false, a, k)
def sortedP (c : Cfg) (h : Int) (m : Mem) (ins : List Bool) : Bool :=
  let r := sortGo c m ins 60 (linkNext (nodeV c m h 2)) 0
  r.1 && (restNo ins (16 - r.2.2).toNat r.2.2 && (r.2.1 == 0))

theorem skip_ok (ins : List Bool) (K : Int) (hK : K ≤ 16) (hin : K < 16 → ins.getD K.toNat false = true) : ∀ (f : Nat) (k : Int), 0 ≤ k → k ≤ K → (f : Int) = 16 - k → (∀ j, k ≤ j → j < K → ins.getD j.toNat false = false) → skipTo ins f k = K
  | 0, k, h0, h1, hf, h2 => by simp only [skipTo]; omega
  | f + 1, k, h0, h1, hf, h2 => by
    simp only [skipTo]
    by_cases hk : k = K
    · subst hk
      have h3 : k < 16 := by omega
      rw [(ltT _ _).2 h3, hin h3]; rfl
    · rw [(ltT _ _).2 (by omega), h2 k (Int.le_refl _) (by omega)]
      rw [i64_in' (by omega)]
      exact skip_ok ins K hK hin f (k + 1) (by omega) (by omega) (by omega) fun j h3 h4 => h2 j (by omega) h4
theorem rest_ok (ins : List Bool) : ∀ (f : Nat) (k : Int), 0 ≤ k → k ≤ 16 → (f : Int) = 16 - k → (∀ j, k ≤ j → j < 16 → ins.getD j.toNat false = false) → restNo ins f k = true
  | 0, k, _, _, _, _ => rfl
  | f + 1, k, h0, h1, hf, h2 => by
    simp only [restNo]
    rw [(ltT _ _).2 (by omega), h2 k (Int.le_refl _) (by omega)]
    simp only [if_true, Bool.false_eq_true, if_false]
    rw [i64_in' (by omega)]
    exact rest_ok ins f (k + 1) (by omega) (by omega) (by omega) fun j h3 h4 => h2 j (by omega) h4

section
variable {c : Cfg} {A A' : Ab} {m m' : Mem} {head K : Int} {ns : List (Int × Int)} (hc : CfgOK c)
include hc
theorem nodeV_ok (wf : WF c A m) {h k n : Int} (e : nod c A h = some (k, n)) : nodeV c m h 1 = k ∧ nodeV c m h 2 = n := by
  obtain ⟨s, o, hat, hw, hv⟩ := nod_some e
  obtain ⟨_, hs, hs0, hs1, ho, _⟩ := at_some hat
  have hob := wf.obs s o ho
  have hr := wf.obj_at hc ho
  have hd := hc.dat_lt
  have h2 := hc.slot (i := s) hs0 (by omega)
  have c0 := (hob.cells 0 k (by rw [hv]; rfl)).2
  have c1 := (hob.cells 1 n (by rw [hv]; rfl)).2
  have hro := Ob.room_size (hob.cl)
  have hdat : 0 ≤ dat c := by simp only [dat]; have := hc.t0; have := hc.s0; have := hc.k0; omega
  simp only [nodeV, hs, h2, hob.ad]
  rw [i64_in' (by omega), i64_in' (by omega)]
  constructor
  · rw [← c0]; simp
  · rw [← c1, show o.ad + 1 + ((1 : Nat) : Int) = o.ad + 2 by omega]
theorem sort_ok (wf : WF c A m) (ins : List Bool) : ∀ (ns : List (Int × Int)) (v k : Int) (f : Nat), ns.length ≤ f → Links (nod c A) v ns → ns.Pairwise (fun a b => a.2 < b.2) → 0 ≤ k → k ≤ 16 →
    (∀ q ∈ ns, k ≤ q.2 ∧ q.2 < 16) → (∀ j, k ≤ j → j < 16 → (ins.getD j.toNat false = true ↔ j ∈ keysOf ns)) →
    ∃ k', sortGo c m ins f v k = (true, 0, k') ∧ 0 ≤ k' ∧ k' ≤ 16 ∧ ∀ j, k' ≤ j → j < 16 → ins.getD j.toNat false = false
  | [], v, k, f, hf, hl, hp, h0, h1, h2, h3 => by
    have hv : v = 0 := Links.hd hl
    subst hv
    refine ⟨k, by cases f <;> simp [sortGo], h0, h1, fun j h4 h5 => ?_⟩
    cases hb : ins.getD j.toNat false with
    | false => rfl
    | true => have := (h3 j h4 h5).1 hb; simp [keysOf] at this
  | (h, K) :: r, v, k, f, hf, hl, hp, h0, h1, h2, h3 => by
    obtain ⟨rfl, n, hn, hr⟩ := hl
    obtain ⟨f, rfl⟩ : ∃ g, f = g + 1 := ⟨f - 1, by simp at hf; omega⟩
    have hK := h2 _ (List.mem_cons_self ..)
    simp only at hK
    obtain ⟨e1, e2⟩ := nodeV_ok hc wf hn
    obtain ⟨n0, n1⟩ := Links.range hr
    obtain ⟨l1, l2⟩ := link_small n0 n1
    have hh := nod_range hn
    obtain ⟨p1, p2⟩ := List.pairwise_cons.1 hp
    have hsk : skipTo ins (16 - k).toNat k = K := by
      refine skip_ok ins K (by omega) (fun _ => (h3 K hK.1 hK.2).2 (by simp [keysOf])) _ k h0 hK.1 (by omega) fun j h4 h5 => ?_
      cases hb : ins.getD j.toNat false with
      | false => rfl
      | true =>
        have := (h3 j h4 (by omega)).1 hb
        simp only [keysOf, List.map_cons, List.mem_cons, List.mem_map] at this
        rcases this with h6 | ⟨q, hq, rfl⟩
        · omega
        · have := p1 q hq; simp only at this; omega
    have e : sortGo c m ins (f + 1) v k = sortGo c m ins f n (K + 1) := by
      simp only [sortGo, e1, e2, l1, l2, hsk]
      rw [show (v == 0) = false from beq_eq_false_iff_ne.2 (by omega), (ltT _ _).2 hK.2, i64_in' (by omega)]
      simp
    rw [e]
    refine sort_ok wf ins r n (K + 1) f (by simp at hf; omega) hr p2 (by omega) (by omega) (fun q hq => ?_) fun j h4 h5 => ?_
    · have := p1 q hq; have := h2 q (List.mem_cons_of_mem _ hq); simp only at *; omega
    · rw [h3 j (by omega) h5]
      simp only [keysOf, List.map_cons, List.mem_cons]
      constructor
      · rintro (h6 | h6)
        · omega
        · exact h6
      · exact .inr
theorem sorted_ok (wf : WF c A m) (li : LI c A head ns) (ins : List Bool) (hlen : ns.length ≤ 60) (hk : ∀ q ∈ ns, 0 ≤ q.2 ∧ q.2 < 16) (hi : ∀ j : Int, 0 ≤ j → j < 16 → (ins.getD j.toNat false = true ↔ j ∈ keysOf ns)) :
    sortedP c head m ins = true := by
  obtain ⟨k0, v, hv, hl⟩ := li.hd
  obtain ⟨_, e2⟩ := nodeV_ok hc wf hv
  obtain ⟨n0, n1⟩ := Links.range hl
  obtain ⟨l1, _⟩ := link_small n0 n1
  obtain ⟨k', h1, h2, h3, h4⟩ := sort_ok hc wf ins ns v 0 60 hlen hl li.srt (Int.le_refl _) (by omega) hk hi
  simp only [sortedP, e2, l1, h1, rest_ok ins (16 - k').toNat k' h2 h3 (by omega) h4]; rfl
end
end Go.Fl

/- A list alone, asked: what each answer is, what is kept. In plain Lean. -/
namespace Go.Fl
open Go Go.Sx
set_option linter.unusedVariables false
set_option linter.unusedSimpArgs false
set_option linter.unusedSectionVars false

/-- a list with the keys that are in; so often was a slot used; so many nodes more may be made -/
structure AI (c : Cfg) (h : Int) (A : Ab) (m : Mem) (ns : List (Int × Int)) (ins : List Bool) (g : Int) (q : Nat) : Prop where
  rs : RS c A 0 m
  li : LI c A h ns
  key : ∀ x ∈ ns, 0 ≤ x.2 ∧ x.2 < 16
  mem : ∀ j : Int, 0 ≤ j → j < 16 → (ins.getD j.toNat false = true ↔ j ∈ keysOf ns)
  len : ins.length = 16
  fsl : (A.fs.length : Int) + ns.length = c.slots - 1
  gb : A.gb ≤ g
  room : Room c A q

theorem srt_len16 : ∀ (ns : List (Int × Int)) (a : Int), ns.Pairwise (fun x y => x.2 < y.2) → (∀ q ∈ ns, a ≤ q.2 ∧ q.2 < 16) → (ns.length : Int) ≤ max 0 (16 - a)
  | [], a, _, _ => by simp; omega
  | q :: r, a, h, hb => by
    have h1 := hb q (List.mem_cons_self ..)
    have h2 := srt_len16 r (a + 1) (List.pairwise_cons.1 h).2 fun x hx => by
      have := (List.pairwise_cons.1 h).1 x hx
      have := hb x (List.mem_cons_of_mem _ hx)
      omega
    simp only [List.length_cons]
    omega
theorem getD_set (l : List Bool) (i j : Nat) (b : Bool) (hi : i < l.length) : (l.set i b).getD j false = if j = i then b else l.getD j false := by
  simp only [List.getD_eq_getElem?_getD, List.getElem?_set]
  by_cases h : j = i
  · subst h; simp [hi]
  · rw [if_neg (fun e => h e.symm), if_neg h]

section
variable {c : Cfg} {A : Ab} {m : Mem} {h K : Int} {ns : List (Int × Int)} {ins : List Bool} {g : Int} {q : Nat} (hc : CfgOK c) (hK0 : 0 ≤ K) (hK1 : K < 16)
include hc hK0 hK1
theorem AI.few (a : AI c h A m ns ins g q) : ns.length ≤ 16 := by
  have := srt_len16 ns 0 a.li.srt a.key
  omega
theorem ask_has (a : AI c h A m ns ins g q) : ∃ d m', askP c 0 h 1 K m = (d, m') ∧ d.e = 0 ∧ d.value = (if ins.getD K.toNat false = true then 1 else 0) ∧ AI c h A m' ns ins g q := by
  have hl := a.few hc hK0 hK1
  have ht := hc.t0
  obtain ⟨n, l', m', h1, h2, h3, h4, h5⟩ := op_has hc (Int.le_refl 0) (by omega) (K := K) a.li a.rs
  have hk : listCheck 1 K = true := by simp only [listCheck, Bool.and_eq_true, Bool.not_eq_true', ltF, ltT]; omega
  refine ⟨_, m', ask_of_ends hk h2 (by omega), h4, ?_, { a with rs := h3 }⟩
  rw [h5]
  have := a.mem K hK0 hK1
  by_cases hb : K ∈ keysOf ns
  · rw [if_pos hb, if_pos (this.2 hb)]
  · rw [if_neg hb, if_neg (fun e => hb (this.1 e))]
theorem ask_add (a : AI c h A m ns ins g (q + 1)) : ∃ d m', askP c 0 h 2 K m = (d, m') ∧
    ((ins.getD K.toNat false = true ∧ d.e = 0 ∧ d.value = 0 ∧ AI c h A m' ns ins g (q + 1)) ∨
     (ins.getD K.toNat false = false ∧ A.fs = [] ∧ d.e = 7 ∧ d.value = 0 ∧ AI c h A m' ns ins g (q + 1)) ∨
     (ins.getD K.toNat false = false ∧ A.fs ≠ [] ∧ d.e = 0 ∧ d.value = 1 ∧ ∃ A' ns', AI c h A' m' ns' (ins.set K.toNat true) g q ∧ ns'.length = ns.length + 1)) := by
  have hl := a.few hc hK0 hK1
  have ht := hc.t0
  obtain ⟨n, l', m', A', h1, h2, h3, h4⟩ := op_add hc (Int.le_refl 0) (by omega) (K := K) a.li a.rs hK0 (by omega)
  have hk : listCheck 2 K = true := by simp only [listCheck, Bool.and_eq_true, Bool.not_eq_true', ltF, ltT]; omega
  refine ⟨_, m', ask_of_ends hk h2 (by omega), ?_⟩
  have hm := a.mem K hK0 hK1
  have hno : K ∉ keysOf ns → ins.getD K.toNat false = false := fun hb => by
    cases e : ins.getD K.toNat false with
    | false => rfl
    | true => exact absurd (hm.1 e) hb
  rcases h4 with ⟨i1, rfl, i3, i4⟩ | ⟨i1, rfl, i3, i4, i5⟩ | ⟨i1, rfl, i3, i4, i5, i6, i7⟩ | ⟨i1, ⟨ns', hn, hj⟩, i3, i4⟩
  · exact .inl ⟨hm.2 i1, i3, i4, { a with rs := h3 }⟩
  · exact .inr (.inl ⟨hno i1, i3, i4, i5, { a with rs := h3 }⟩)
  · exfalso
    rcases a.room.pos with ⟨i, j1, j2, j3⟩ | hf
    · exact i4 i j1 j2 j3
    · exact i5 hf
  · obtain ⟨A1, s, g1, r, hmade, _, e1, e2, e3, e4⟩ := hj.made
    obtain ⟨pre, post, rfl, rfl, _, _⟩ := hj.split
    refine .inr (.inr ⟨hno i1, by rw [hmade.fs]; exact List.cons_ne_nil _ _, i3, i4, A', _, ⟨h3, hj.li, fun x hx => ?_, fun j h0 h1 => ?_, by rw [List.length_set]; exact a.len, ?_, by rw [e4, hmade.gb]; exact a.gb, (a.room.made hc hmade).same e2 e3⟩, by simp [Nat.add_assoc]⟩)
    · rcases List.mem_append.1 hx with hx | hx
      · exact a.key x (List.mem_append_left _ hx)
      · rcases List.mem_cons.1 hx with rfl | hx
        · exact ⟨hK0, hK1⟩
        · exact a.key x (List.mem_append_right _ hx)
    · rw [getD_set _ _ _ _ (by rw [a.len]; omega)]
      have := a.mem j h0 h1
      simp only [keysOf, List.map_append, List.map_cons, List.mem_append, List.mem_cons] at *
      by_cases hj : j = K
      · subst hj; simp
      · rw [if_neg (by omega), this]; simp [hj]
    · have := a.fsl
      rw [hmade.fs] at this
      rw [e1, hmade.fs']
      simp only [List.length_append, List.length_cons] at *
      omega
theorem ask_remove (a : AI c h A m ns ins g q) (hg : g < c.gens) : ∃ d m', askP c 0 h 3 K m = (d, m') ∧ d.e = 0 ∧
    ((ins.getD K.toNat false = false ∧ d.value = 0 ∧ AI c h A m' ns ins g q) ∨
     (ins.getD K.toNat false = true ∧ d.value = 1 ∧ ∃ A' ns', AI c h A' m' ns' (ins.set K.toNat false) (g + 1) q ∧ ns'.length + 1 = ns.length)) := by
  have hl := a.few hc hK0 hK1
  have ht := hc.t0
  obtain ⟨n, l', m', A', h1, h2, h3, h4, h5⟩ := op_remove hc (Int.le_refl 0) (by omega) (K := K) a.li a.rs
  have hk : listCheck 3 K = true := by simp only [listCheck, Bool.and_eq_true, Bool.not_eq_true', ltF, ltT]; omega
  refine ⟨_, m', ask_of_ends hk h2 (by omega), h4, ?_⟩
  have hm := a.mem K hK0 hK1
  rcases h5 with ⟨i1, rfl, i3⟩ | ⟨i1, ⟨ns', hn, hj⟩, i3⟩
  · refine .inl ⟨?_, i3, { a with rs := h3 }⟩
    cases e : ins.getD K.toNat false with
    | false => rfl
    | true => exact absurd (hm.1 e) i1
  · have hsrt := a.li.srt
    obtain ⟨pre, post, rfl, rfl⟩ := hj.split
    obtain ⟨s, o, hat, hfs⟩ := hj.slot
    obtain ⟨_, _, hs0, hs1, ho, _⟩ := at_some hat
    have hgen : o.gen ≤ A.gb := by
      have := a.rs.wf.gb s hs0 hs1
      rw [(a.rs.wf.obs s o ho).gn] at this
      exact this
    have hgb := a.gb
    rw [if_pos (by omega)] at hfs
    obtain ⟨p1, p2, p3⟩ := List.pairwise_append.1 hsrt
    obtain ⟨p4, p5⟩ := List.pairwise_cons.1 p2
    refine .inr ⟨hm.2 i1, i3, A', _, ⟨h3, hj.li, fun x hx => ?_, fun j h0 h1 => ?_, by rw [List.length_set]; exact a.len, ?_, by rw [hj.gb]; omega, a.room.same hj.ck hj.op⟩, by simp [Nat.add_assoc]⟩
    · rcases List.mem_append.1 hx with hx | hx
      · exact a.key x (List.mem_append_left _ hx)
      · exact a.key x (List.mem_append_right _ (List.mem_cons_of_mem _ hx))
    · rw [getD_set _ _ _ _ (by rw [a.len]; omega)]
      have := a.mem j h0 h1
      simp only [keysOf, List.map_append, List.map_cons, List.mem_append, List.mem_cons] at *
      by_cases hjk : j = K
      · subst hjk
        simp only [if_true, Bool.false_eq_true, false_iff, not_or, List.mem_map, not_exists, not_and]
        constructor
        · intro x hx e
          have := p3 x hx _ (.inl rfl)
          omega
        · intro x hx e
          have := p4 x hx
          omega
      · rw [if_neg (by omega), this]; simp [hjk]
    · have := a.fsl
      rw [hfs]
      simp only [List.length_append, List.length_cons] at *
      omega
end

/-! ### ListAlone -/
def keyA (k : Int) : Int := ibits .and k 15
theorem keyA_ok (k : Int) : 0 ≤ keyA k ∧ keyA k < 16 := by
  unfold keyA
  rw [iand, show ((15 : Int) % 18446744073709551616).toNat = 2 ^ 4 - 1 from rfl, Nat.and_two_pow_sub_one_eq_mod, i64_in' (by omega)]
  omega
def aloneOne (c : Cfg) (h kind key : Int) (ins : List Bool) (m : Mem) : Bool × List Bool × Mem :=
  let r := askP c 0 h (kindW kind) (keyA key) m
  if (r.1.e == 0) && (r.1.value == if ins.getD (keyA key).toNat false == !(kindW kind == 2) then 1 else 0) then
    (true, if kindW kind == 1 then ins else ins.set (keyA key).toNat (kindW kind == 2), r.2)
  else (false, ins, r.2)
def aloneGo (c : Cfg) (h : Int) (l : List Int) : Nat → Int → List Bool → Mem → Bool × List Bool × Mem
  | 0, _, ins, m => (true, ins, m)
  | k + 1, i, ins, m =>
    if ltI i ((l.length / 3 : Nat) : Int) then
      let r := aloneOne c h (l.getD (i.toNat * 3 + 1) 0) (l.getD (i.toNat * 3 + 2) 0) ins m
      if r.1 then aloneGo c h l k (i64 (i + 1)) r.2.1 r.2.2 else r
    else (true, ins, m)
section
variable {c : Cfg} {h : Int} (hc : CfgOK c) (hs : 18 ≤ c.slots) (hgens : c.gens = 100)
include hc hs hgens
theorem alone_one {A : Ab} {m : Mem} {ns : List (Int × Int)} {ins : List Bool} {g : Int} {q : Nat} (a : AI c h A m ns ins g (q + 1)) (hg : g < 100) (kind key : Int) :
    ∃ A' m' ns' ins' q', aloneOne c h kind key ins m = (true, ins', m') ∧ AI c h A' m' ns' ins' (g + 1) q' ∧ q ≤ q' := by
  obtain ⟨k0, k1⟩ := keyA_ok key
  have hl := a.few hc k0 k1
  rcases kindW_ok kind with e | e | e
  · obtain ⟨d, m', h1, h2, h3, h4⟩ := ask_has hc k0 k1 a
    refine ⟨A, m', ns, ins, q + 1, ?_, { h4 with gb := by have := h4.gb; omega }, by omega⟩
    simp only [aloneOne, e, h1, h2, h3]
    cases ins.getD (keyA key).toNat false <;> rfl
  · obtain ⟨d, m', h1, h2⟩ := ask_add hc k0 k1 a
    rcases h2 with ⟨i1, i2, i3, i4⟩ | ⟨i1, i2, i3, i4, i5⟩ | ⟨i1, i2, i3, i4, A', ns', i5, i6⟩
    · refine ⟨A, m', ns, ins.set (keyA key).toNat true, q + 1, ?_, ?_, by omega⟩
      · simp only [aloneOne, e, h1, i1, i2, i3]; rfl
      · have hset : ins.set (keyA key).toNat true = ins := by
          apply List.ext_getElem?
          intro j
          rw [List.getElem?_set]
          by_cases hj : (keyA key).toNat = j
          · have hlt : j < ins.length := by rw [i4.len]; omega
            rw [if_pos hj, if_pos (by omega), List.getElem?_eq_getElem hlt]
            rw [hj, List.getD_eq_getElem?_getD, List.getElem?_eq_getElem hlt] at i1
            simp only [Option.getD_some] at i1
            rw [i1]
          · rw [if_neg hj]
        rw [hset]
        exact { i4 with gb := by have := i4.gb; omega }
    · exfalso
      have := a.fsl
      rw [i2] at this
      simp only [List.length_nil] at this
      omega
    · refine ⟨A', m', ns', _, q, ?_, { i5 with gb := by have := i5.gb; omega }, by omega⟩
      simp only [aloneOne, e, h1, i1, i3, i4]; rfl
  · obtain ⟨d, m', h1, h2, h3⟩ := ask_remove hc k0 k1 a (by omega)
    rcases h3 with ⟨i1, i3, i4⟩ | ⟨i1, i3, A', ns', i5, i6⟩
    · refine ⟨A, m', ns, ins.set (keyA key).toNat false, q + 1, ?_, ?_, by omega⟩
      · simp only [aloneOne, e, h1, i1, h2, i3]; rfl
      · have hset : ins.set (keyA key).toNat false = ins := by
          apply List.ext_getElem?
          intro j
          rw [List.getElem?_set]
          by_cases hj : (keyA key).toNat = j
          · have hlt : j < ins.length := by rw [i4.len]; omega
            rw [if_pos hj, if_pos (by omega), List.getElem?_eq_getElem hlt]
            rw [hj, List.getD_eq_getElem?_getD, List.getElem?_eq_getElem hlt] at i1
            simp only [Option.getD_some] at i1
            rw [i1]
          · rw [if_neg hj]
        rw [hset]
        exact { i4 with gb := by have := i4.gb; omega }
    · refine ⟨A', m', ns', _, q + 1, ?_, i5, by omega⟩
      simp only [aloneOne, e, h1, i1, h2, i3]; rfl
theorem AI.less {A : Ab} {m : Mem} {ns : List (Int × Int)} {ins : List Bool} {g : Int} {q q' : Nat} (a : AI c h A m ns ins g q) (hq : q' ≤ q) : AI c h A m ns ins g q' := by
  obtain ⟨free, r, h1, h2, h3, h4⟩ := a.room
  exact { a with room := ⟨free, r, h1, h2, h3, by omega⟩ }
theorem alone_go (l : List Int) : ∀ (k : Nat) (i : Int) {A : Ab} {m : Mem} {ns : List (Int × Int)} {ins : List Bool} {g : Int} {q : Nat}, AI c h A m ns ins g q → g + k ≤ 100 → k ≤ q →
    ∃ A' m' ns' ins' g' q', aloneGo c h l k i ins m = (true, ins', m') ∧ AI c h A' m' ns' ins' g' q'
  | 0, i, A, m, ns, ins, g, q, a, h1, h2 => ⟨A, m, ns, ins, g, q, rfl, a⟩
  | k + 1, i, A, m, ns, ins, g, q, a, h1, h2 => by
    simp only [aloneGo]
    split
    · obtain ⟨q, rfl⟩ : ∃ p, q = p + 1 := ⟨q - 1, by omega⟩
      obtain ⟨A', m', ns', ins', q', e1, e2, e3⟩ := alone_one hc hs hgens a (by omega) (l.getD (i.toNat * 3 + 1) 0) (l.getD (i.toNat * 3 + 2) 0)
      rw [e1]
      simp only [if_true]
      exact alone_go l k _ e2 (by omega) (by omega)
    · exact ⟨A, m, ns, ins, g, q, rfl, a⟩
end
theorem cfg40 : CfgOK (cfgA 4 40 12 40) := by constructor <;> decide
theorem no_ins : List.replicate 16 false = [false, false, false, false, false, false, false, false, false, false, false, false, false, false, false, false] := rfl
theorem getD_rep (j : Nat) : (List.replicate 16 false).getD j false = false := by
  rw [List.getD_eq_getElem?_getD, List.getElem?_replicate]; split <;> rfl
/-- what ListAlone comes to -/
theorem alone_law (l : List Int) : (begunD 40).1.e = 0 ∧ ∃ ins m', aloneGo (cfgA 4 40 12 40) (begunD 40).1.handle l 60 0 (List.replicate 16 false) (begunD 40).2 = (true, ins, m') ∧ ins.length = 16 ∧
    sortedP (cfgA 4 40 12 40) (begunD 40).1.handle m' ins = true := by
  obtain ⟨A, m, d, h1, h2, h3, h4, h5, h6, h7⟩ := begun_ok cfg40
  have e : begunD 40 = (d, m) := h1
  rw [e]
  have a : AI (cfgA 4 40 12 40) d.handle A m [] (List.replicate 16 false) 1 155 := by
    refine ⟨h3, h4, (fun x hx => by cases hx), fun j _ _ => ?_, by decide, ?_, by rw [h6]; decide, h7 155 (by decide)⟩
    · rw [getD_rep]; simp [keysOf]
    · rw [h5, seqI_len]; decide
  obtain ⟨A', m', ns', ins', g', q', e1, e2⟩ := alone_go cfg40 (by decide) rfl l 60 0 a (by omega) (by omega)
  refine ⟨h2, ins', m', e1, e2.len, sorted_ok cfg40 e2.rs.wf e2.li ins' ?_ e2.key e2.mem⟩
  have := e2.few cfg40 (K := 0) (Int.le_refl 0) (by omega)
  omega
end Go.Fl

/- A list without room: what ListFull comes to. In plain Lean. -/
namespace Go.Fl
open Go Go.Sx
set_option linter.unusedVariables false
set_option linter.unusedSimpArgs false
set_option linter.unusedSectionVars false

/-- behind an answer that there is no room: another key goes, this one comes in -/
def fullSwap (c : Cfg) (h K many : Int) (ins : List Bool) (m : Mem) : Bool × List Bool × Int × Mem :=
  let j := skipTo ins 16 0
  let r := askP c 0 h 3 j m
  if r.1.value == 1 then
    let s := askP c 0 h 2 K r.2
    if s.1.value == 1 then (true, (ins.set j.toNat false).set K.toNat true, many, s.2) else (false, ins, many, s.2)
  else (false, ins, many, r.2)
def fullNo (c : Cfg) (h K many : Int) (ins : List Bool) (d : Done × Mem) : Bool × List Bool × Int × Mem :=
  if (d.1.e == 7) && (d.1.value == 0) then
    let b := askP c 0 h 1 K d.2
    if b.1.value == 0 then (if ltI 0 many then fullSwap c h K many ins b.2 else (true, ins, many, b.2)) else (false, ins, many, b.2)
  else (false, ins, many, d.2)
def fullOne (c : Cfg) (h n key many : Int) (ins : List Bool) (m : Mem) : Bool × List Bool × Int × Mem :=
  let K := keyA key
  let d := askP c 0 h 2 K m
  if ins.getD K.toNat false then ((d.1.e == 0) && (d.1.value == 0), ins, many, d.2)
  else if ltI many (i64 (n - 1)) then (if (d.1.e == 0) && (d.1.value == 1) then (true, ins.set K.toNat true, i64 (many + 1), d.2) else (false, ins, many, d.2))
  else fullNo c h K many ins d
def fullGo (c : Cfg) (h n : Int) (l : List Int) : Nat → Int → Int → List Bool → Mem → Bool × List Bool × Int × Mem
  | 0, _, many, ins, m => (true, ins, many, m)
  | k + 1, i, many, ins, m =>
    if ltI i ((l.length / 1 : Nat) : Int) then
      let r := fullOne c h n (l.getD (i.toNat * 1 + 0) 0) many ins m
      if r.1 then fullGo c h n l k (i64 (i + 1)) r.2.2.1 r.2.1 r.2.2.2 else r
    else (true, ins, many, m)

theorem skip_finds (ins : List Bool) (K : Int) (hK0 : 0 ≤ K) (hK1 : K < 16) (hin : ins.getD K.toNat false = true) : ∀ (f : Nat) (k : Int), 0 ≤ k → k ≤ K → (f : Int) = 16 - k →
    0 ≤ skipTo ins f k ∧ skipTo ins f k < 16 ∧ ins.getD (skipTo ins f k).toNat false = true
  | 0, k, h0, h1, hf => by omega
  | f + 1, k, h0, h1, hf => by
    simp only [skipTo]
    cases hb : ins.getD k.toNat false with
    | true =>
      simp only [Bool.not_true, Bool.and_false, Bool.false_eq_true, if_false]
      exact ⟨h0, by omega, hb⟩
    | false =>
      have hne : k ≠ K := fun e => by rw [e, hin] at hb; cases hb
      simp only [Bool.not_false, Bool.and_true, (ltT _ _).2 (by omega : k < 16), if_true]
      rw [i64_in' (by omega)]
      exact skip_finds ins K hK0 hK1 hin f (k + 1) (by omega) (by omega) (by omega)

section
variable {c : Cfg} {h : Int} (hc : CfgOK c) (hgens : c.gens = 100)
include hc hgens
theorem full_one {A : Ab} {m : Mem} {ns : List (Int × Int)} {ins : List Bool} {g : Int} {q : Nat} (a : AI c h A m ns ins g (q + 2)) (hg : g < 100) (key : Int) :
    ∃ A' m' ns' ins' q', fullOne c h c.slots key ns.length ins m = (true, ins', (ns'.length : Int), m') ∧ AI c h A' m' ns' ins' (g + 1) q' ∧ q ≤ q' := by
  obtain ⟨k0, k1⟩ := keyA_ok key
  have hl := a.few hc k0 k1
  have hs0 := hc.s0; have hs1 := hc.s1
  have hn1 : i64 (c.slots - 1) = c.slots - 1 := i64_in' (by omega)
  have hf := a.fsl
  obtain ⟨d, m1, h1, h2⟩ := ask_add hc k0 k1 a
  rcases h2 with ⟨i1, i2, i3, i4⟩ | ⟨i1, i2, i3, i4, i5⟩ | ⟨i1, i2, i3, i4, A1, ns1, i5, i6⟩
  · refine ⟨A, m1, ns, ins, q + 2, ?_, { i4 with gb := by have := i4.gb; omega }, by omega⟩
    simp only [fullOne, h1, i1, i2, i3, if_true]; rfl
  · have hfull : ltI (ns.length : Int) (c.slots - 1) = false := (ltF _ _).2 (by rw [i2] at hf; simp only [List.length_nil] at hf; omega)
    obtain ⟨b, m2, j1, j2, j3, j4⟩ := ask_has hc k0 k1 i5
    rw [i1] at j3
    simp only [Bool.false_eq_true, if_false] at j3
    by_cases hns : ns = []
    · subst hns
      refine ⟨A, m2, [], ins, q + 2, ?_, { j4 with gb := by have := j4.gb; omega }, by omega⟩
      have h0 : ltI 0 ((([] : List (Int × Int)).length : Nat) : Int) = false := by decide
      simp only [fullOne, h1, i1, hn1, hfull, fullNo, i3, i4, j1, j3, h0, Bool.false_eq_true, if_false]; rfl
    · obtain ⟨x, r, rfl⟩ : ∃ x r, ns = x :: r := by cases ns with | nil => exact absurd rfl hns | cons x r => exact ⟨x, r, rfl⟩
      have hx := a.key x (List.mem_cons_self ..)
      have hxin := (a.mem x.2 hx.1 hx.2).2 (by simp [keysOf])
      obtain ⟨s0, s1, s2⟩ := skip_finds ins x.2 hx.1 hx.2 hxin 16 0 (Int.le_refl _) hx.1 (by decide)
      have hjk : skipTo ins 16 0 ≠ keyA key := fun e => by rw [e, i1] at s2; cases s2
      obtain ⟨d3, m3, e1, e2, e3⟩ := ask_remove hc s0 s1 j4 (by omega)
      rcases e3 with ⟨f1, _⟩ | ⟨f1, f2, A3, ns3, f3, f4⟩
      · rw [s2] at f1; cases f1
      · obtain ⟨d4, m4, u1, u2⟩ := ask_add hc k0 k1 f3
        have hno : (ins.set (skipTo ins 16 0).toNat false).getD (keyA key).toNat false = false := by
          have hne : ¬ (keyA key).toNat = (skipTo ins 16 0).toNat := fun e => hjk (by rw [← Int.toNat_of_nonneg s0, ← Int.toNat_of_nonneg k0, e])
          rw [getD_set _ _ _ _ (by rw [a.len]; omega), if_neg hne]; exact i1
        rcases u2 with ⟨w1, _⟩ | ⟨_, w2, _⟩ | ⟨_, w2, w3, w4, A4, ns4, w5, w6⟩
        · rw [hno] at w1; cases w1
        · exfalso
          have := f3.fsl
          rw [w2] at this
          rw [i2] at hf
          simp only [List.length_nil, List.length_cons] at this hf f4
          omega
        · have h0 : ltI 0 (((x :: r).length : Nat) : Int) = true := (ltT _ _).2 (by simp only [List.length_cons]; omega)
          refine ⟨A4, m4, ns4, _, q + 1, ?_, w5, by omega⟩
          have hlen : ((ns4.length : Nat) : Int) = ((x :: r).length : Nat) := by omega
          rw [hlen]
          simp only [fullOne, h1, i1, hn1, hfull, fullNo, i3, i4, j1, j3, h0, fullSwap, e1, f2, u1, w4, Bool.false_eq_true, if_false, if_true]; rfl
  · have hroom : ltI (ns.length : Int) (c.slots - 1) = true := (ltT _ _).2 (by
      cases hA : A.fs with
      | nil => exact absurd hA i2
      | cons x r => rw [hA] at hf; simp only [List.length_cons] at hf; omega)
    refine ⟨A1, m1, ns1, _, q + 1, ?_, { i5 with gb := by have := i5.gb; omega }, by omega⟩
    have hlen : i64 ((ns.length : Int) + 1) = ((ns1.length : Nat) : Int) := by rw [i64_in' (by omega), i6]; omega
    simp only [fullOne, h1, i1, hn1, hroom, i3, i4, hlen, Bool.false_eq_true, if_false, if_true]; rfl
theorem full_go (l : List Int) : ∀ (k : Nat) (i : Int) {A : Ab} {m : Mem} {ns : List (Int × Int)} {ins : List Bool} {g : Int} {q : Nat}, AI c h A m ns ins g q → g + k ≤ 100 → 2 * k ≤ q →
    ∃ A' m' ns' ins' g' q', fullGo c h c.slots l k i ns.length ins m = (true, ins', (ns'.length : Int), m') ∧ AI c h A' m' ns' ins' g' q'
  | 0, i, A, m, ns, ins, g, q, a, h1, h2 => ⟨A, m, ns, ins, g, q, rfl, a⟩
  | k + 1, i, A, m, ns, ins, g, q, a, h1, h2 => by
    simp only [fullGo]
    split
    · obtain ⟨q, rfl⟩ : ∃ p, q = p + 2 := ⟨q - 2, by omega⟩
      obtain ⟨A', m', ns', ins', q', e1, e2, e3⟩ := full_one hc hgens a (by omega) (l.getD (i.toNat * 1 + 0) 0)
      rw [e1]
      simp only [if_true]
      exact full_go l k _ e2 (by omega) (by omega)
    · exact ⟨A, m, ns, ins, g, q, rfl, a⟩
end
theorem cfgN {n : Int} (h0 : 1 ≤ n) (h1 : n ≤ 8) : CfgOK (cfgA 4 n 12 40) := by
  constructor <;> simp only [cfgA] <;> omega
/-- what ListFull comes to -/
theorem full_law {n : Int} (hn0 : 1 ≤ n) (hn1 : n ≤ 8) (l : List Int) : (begunD n).1.e = 0 ∧
    ∃ ins many m', fullGo (cfgA 4 n 12 40) (begunD n).1.handle n l 40 0 0 (List.replicate 16 false) (begunD n).2 = (true, ins, many, m') ∧ ins.length = 16 ∧
      sortedP (cfgA 4 n 12 40) (begunD n).1.handle m' ins = true := by
  have hc := cfgN hn0 hn1
  obtain ⟨A, m, d, h1, h2, h3, h4, h5, h6, h7⟩ := begun_ok hc
  have e : begunD n = (d, m) := h1
  rw [e]
  have hsl : (cfgA 4 n 12 40).slots = n := rfl
  have a : AI (cfgA 4 n 12 40) d.handle A m [] (List.replicate 16 false) 1 155 := by
    refine ⟨h3, h4, (fun x hx => by cases hx), fun j _ _ => ?_, by decide, ?_, by rw [h6]; decide, h7 155 (by show 155 + 1 ≤ (12 : Int).toNat * ((40 : Int) / 3).toNat; decide)⟩
    · rw [getD_rep]; simp [keysOf]
    · rw [h5, seqI_len, hsl]; simp only [List.length_nil]; omega
  obtain ⟨A', m', ns', ins', g', q', e1, e2⟩ := full_go hc rfl l 40 0 a (by omega) (by omega)
  refine ⟨h2, ins', _, m', e1, e2.len, sorted_ok hc e2.rs.wf e2.li ins' ?_ e2.key e2.mem⟩
  have := e2.few hc (K := 0) (Int.le_refl 0) (by omega)
  omega
end Go.Fl

/- ListAlone, ListFull: 'sorted', its loops: what they come to. -/
namespace Go.Fl
open Go Go.Sx Go.Proofs

def sgR (c : Cfg) (m : Mem) (ins : List Bool) (q : Int × Int × Int × Int) : Bool × Int × Int := sortGo c m ins (60 - q.2.2.1).toNat q.1 q.2.1
def cntT (l : List Bool) : Nat := (l.filter id).length
def fuR (c : Cfg) (m : Mem) (l : List Int) (ins : List Bool) (q : Int × Int × Int × Int) : Bool × List Bool × Int × Mem := fullGo c q.1 q.2.1 l (40 - q.2.2.1).toNat q.2.2.1 q.2.2.2 ins m
/-- what is added -/
instance extA : ExtF := {
  x1 := fun s a => match s with
    | 204 => .int (gquad a).1
    | 205 => .int (gquad a).2.1
    | _ => a
  x2 := fun s a b => match s with
    | 200 => .int (skipTo a.toBools (16 - b.toInt).toNat b.toInt)
    | 201 => .bool (restNo a.toBools (16 - b.toInt).toNat b.toInt)
    | 208 => .u (.pair (.ints a.toInts) (.bools b.toBools))
    | 209 => .bool (decide ((cntT a.toBools : Int) = b.toInt))
    | _ => a
  x3 := fun s a b c => match s with
    | 206 => .bool (sortedP (gcw a).1 (gcw a).2 (gmem b) c.toBools)
    | _ => a
  x4 := fun s a b c d => match s with
    | 203 => .u (.pair (.bool (sgR (gcfg a) (gmem b) c.toBools (gquad d)).1) (.quad (sgR (gcfg a) (gmem b) c.toBools (gquad d)).2.1 (sgR (gcfg a) (gmem b) c.toBools (gquad d)).2.2 0 0))
    | 207 => .u (.pair (.bool (aloneGo (gcw a).1 (gcw a).2 (gfst c).toInts (60 - d.toInt).toNat d.toInt (gsnd c).toBools (gmem b)).1)
        (.pair (.bools (aloneGo (gcw a).1 (gcw a).2 (gfst c).toInts (60 - d.toInt).toNat d.toInt (gsnd c).toBools (gmem b)).2.1) (.mem (aloneGo (gcw a).1 (gcw a).2 (gfst c).toInts (60 - d.toInt).toNat d.toInt (gsnd c).toBools (gmem b)).2.2)))
    | 210 => .u (.pair (.bool (fuR (gcfg a) (gmem b) (gfst c).toInts (gsnd c).toBools (gquad d)).1) (.pair (.bools (fuR (gcfg a) (gmem b) (gfst c).toInts (gsnd c).toBools (gquad d)).2.1)
        (.pair (.int (fuR (gcfg a) (gmem b) (gfst c).toInts (gsnd c).toBools (gquad d)).2.2.1) (.mem (fuR (gcfg a) (gmem b) (gfst c).toInts (gsnd c).toBools (gquad d)).2.2.2))))
    | _ => a
  ks := fun _ => [], ok := fun _ _ h => by cases h }

def tl14a : List (Nat × Tmpl) := (30, gAwake.t) :: tl13
theorem tl14a_ok : AllT tl14a := allT_cons gAwake_ok tl13_ok
def tm14a : CH := tmOf tl14a
theorem tm14a_ok : CallOK SG prog tm14a := tmOf_ok tl14a_ok

def inV (id : Nat) : SV := .one (.c (.slice id (.int 0) (.int 16) (.int 16)))
/-- variables: the shape, the words, what is in, who -/
def srTm (l : List (Nat × SV)) : List SV := tms 90 ([(2, inV 4), (3, pE 1)] ++ l)
def srH : SH := [(1, envC 0 3 3), (3, .res 0 (.var 1)), (4, .row .bool (.var 2))]
def srR : SH := [(3, .res 0 (.var 1)), (4, .row .bool (.var 2))]
def len16 : St := ⟨[], [], 5, [(.o2 .eql (.o1 .lenB (.var 2)) (.int 16), false)]⟩
def neg (i : Nat) : St := ⟨[], [], 5, [(.o2 .lss (.var i) (.int 0), true)]⟩
/-- at 4, round 5, key 6, k 7 -/
def lSkip : LoopT :=
  ⟨srTm [(7, uE (.var 4)), (8, iE (.var 7)), (9, iE (.var 5)), (13, iE (.var 6))], srH, 5,
   [(.exit 2, ⟨srTm [(7, uE (.var 4)), (8, iE (.f2 200 (.var 2) (.var 7))), (9, iE (.var 5)), (13, iE (.var 6))], srH, 5, []⟩), (.fail, neg 7), (.fail, len16)]⟩
/-- at 4, round 5, k 6 -/
def srtE : E := .f4 203 (.var 0) (.var 1) (.var 2) (.f4 50 (.var 4) (.var 6) (.var 5) (.int 0))
def lSort : LoopT :=
  ⟨srTm [(7, uE (.var 4)), (8, iE (.var 6)), (9, iE (.var 5))], srH, 5,
   [(.exit 0, ⟨srTm [(7, uE (.f1 204 (.f1 98 srtE))), (8, iE (.f1 205 (.f1 98 srtE)))], srH, 5, [(.f1 97 srtE, true)]⟩),
    (.ret, ⟨tms 90 [(6, bE (.bool false))], srR, 5, [(.f1 97 srtE, false)]⟩), (.fail, neg 5), (.fail, neg 6), (.fail, len16)]⟩
/-- at 4, k 5 -/
def rstE : E := .f2 201 (.var 2) (.var 5)
def lRest : LoopT :=
  ⟨srTm [(7, uE (.var 4)), (8, iE (.var 5))], srH, 5,
   [(.exit 4, ⟨tms 90 [(7, uE (.var 4))], srR, 5, [(rstE, true)]⟩), (.ret, ⟨tms 90 [(6, bE (.bool false))], srR, 5, [(rstE, false)]⟩), (.fail, neg 5), (.fail, len16)]⟩
def qSort : List Nat := [1, 1, 0, 1, 0]
def qSkip : List Nat := [1, 1, 0, 1, 0, 0, 1, 0, 0, 1, 1, 1, 1, 1, 0, 0]
def qRel : List Nat := [1, 0, 0, 1, 1, 1, 1, 1, 0, 0]
def qRest : List Nat := [1, 1, 1, 0, 0]
def lhSkip : LH := lhOf [(qRel, lSkip)]
def lhSorted : LH := lhOf [(qSort, lSort), (qRest, lRest)]
end Go.Fl

/- Rounds of the loops of 'sorted', as they are carried out: printed. -/
namespace Go.Fl
open Go Go.Sx

abbrev ySx0 : SV := .one (.c (.slice 4 (.int 0) (.int 16) (.int 16)))
abbrev ySx1 : SV := .one (.c (.ptr 1 (.int 0)))
abbrev ySx2 : SV := .one (.c (.int .i64 (.int 16)))
abbrev ySx3 : SV := .one (.c (.bool (.o2 .lss (.var 7) (.int 16))))
abbrev ySh0 : Nat × Blk := (1, .cells [.int .i64 (.f1 0 (.var 0)), .int .i64 (.f1 1 (.var 0)), .int .i64 (.f1 2 (.var 0)), .int .i64 (.f1 3 (.var 0)), .int .i64 (.f1 4 (.var 0)), .int .i64 (.f1 5 (.var 0)), .int .i64 (.f1 6 (.var 0)), .ptr 3 (.int 0), xi 3])
abbrev ySh1 : Nat × Blk := (4, .row .bool (.var 2))
abbrev ySp0 : Path := ((.o2 .lss (.var 7) (.int 16)), true) :: []
abbrev ySx4 : SV := .one (.c (.ptr 4 (.var 7)))
abbrev ySx5 : SV := .one (.c (.bool (.o1 .not (.o2 .nthB (.var 2) (.var 7)))))
abbrev ySp1 : Path := ((.o2 .lss (.var 7) (.int 0)), false) :: ySp0
abbrev ySp2 : Path := ((.o2 .inB (.var 2) (.var 7)), true) :: ySp1
abbrev ySx6 : SV := .one (.c (.bool (.bool false)))
abbrev ySx7 : SV := .one (.c (.bool (.o2 .lss (.var 5) (.int 60))))
abbrev ySx8 : SV := .one (.c (.bool (.o1 .not (.o2 .eql (.var 4) (.int 0)))))
abbrev ySp3 : Path := ((.o2 .lss (.var 5) (.int 60)), true) :: []
abbrev ySx9 : SV := .one (.c (.int .u64 (.f1 80 (.f1 33 (.f2 20 (.var 1) (.o2 (.arith .add .i64) (.f1 21 (.f2 20 (.var 1) (.f2 0 (.var 0) (.f1 10 (.var 4))))) (.int 2)))))))
abbrev ySx10 : SV := .one (.c (.int .i64 (.o2 (.arith .add .i64) (.var 5) (.int 1))))
abbrev ySx11 : SV := .one (.c (.int .i64 (.f1 33 (.f2 20 (.var 1) (.o2 (.arith .add .i64) (.f1 21 (.f2 20 (.var 1) (.f2 0 (.var 0) (.f1 10 (.var 4))))) (.int 1))))))
abbrev ySh2 : Nat × Blk := (20, .cells [.int .i64 (.f1 10 (.var 4)), .int .i64 (.f1 11 (.var 4))])
abbrev ySh3 : Nat × Blk := (19, .cells [.int .u64 (.f1 80 (.f1 33 (.f2 20 (.var 1) (.o2 (.arith .add .i64) (.f1 21 (.f2 20 (.var 1) (.f2 0 (.var 0) (.f1 10 (.var 4))))) (.int 2))))), .bool (.f1 81 (.f1 33 (.f2 20 (.var 1) (.o2 (.arith .add .i64) (.f1 21 (.f2 20 (.var 1) (.f2 0 (.var 0) (.f1 10 (.var 4))))) (.int 2)))))])
abbrev ySp4 : Path := ((.o2 .eql (.var 4) (.int 0)), false) :: ySp3
abbrev ySx12 : SV := .one (.c (.int .i64 (.f2 200 (.var 2) (.var 6))))
abbrev ySx13 : SV := .one (.c (.bool (.o1 .not (.o2 .lss (.f2 200 (.var 2) (.var 6)) (.int 16)))))
abbrev ySx14 : SV := .one (.c (.bool (.o1 .not (.o2 .eql (.f1 33 (.f2 20 (.var 1) (.o2 (.arith .add .i64) (.f1 21 (.f2 20 (.var 1) (.f2 0 (.var 0) (.f1 10 (.var 4))))) (.int 1)))) (.f2 200 (.var 2) (.var 6))))))
abbrev ySp5 : Path := ((.f1 81 (.f1 33 (.f2 20 (.var 1) (.o2 (.arith .add .i64) (.f1 21 (.f2 20 (.var 1) (.f2 0 (.var 0) (.f1 10 (.var 4))))) (.int 2))))), false) :: ySp4
abbrev ySp6 : Path := ((.o2 .lss (.f2 200 (.var 2) (.var 6)) (.int 16)), true) :: ySp5
abbrev ySx15 : SV := .one (.c (.bool (.o2 .lss (.var 5) (.int 16))))
abbrev ySp7 : Path := ((.o2 .lss (.var 5) (.int 16)), true) :: []
abbrev ySx16 : SV := .one (.c (.ptr 4 (.var 5)))
abbrev ySp8 : Path := ((.o2 .lss (.var 5) (.int 0)), false) :: ySp7
abbrev ySp9 : Path := ((.o2 .inB (.var 2) (.var 5)), true) :: ySp8
def lSkip_0 : St := ⟨tms 90 [(2, ySx0), (3, ySx1), (7, .one (.c (xu 4))), (8, .one (.c (xi 7))), (9, .one (.c (xi 5))), (13, .one (.c (xi 6))), (54, .one (.c (xi 7))), (55, ySx0), (56, ySx2), (57, ySx3), (58, ySx3), (59, ySx0), (60, .one (.c (xi 7)))], [ySh0, (3, .res 0 (.var 1)), ySh1], 5, ((.o2 .lss (.var 7) (.int 0)), true) :: ySp0⟩
def lSkip_1 : St := ⟨tms 90 [(2, ySx0), (3, ySx1), (7, .one (.c (xu 4))), (8, .one (.c (xi 7))), (9, .one (.c (xi 5))), (13, .one (.c (xi 6))), (54, .one (.c (xi 7))), (55, ySx0), (56, ySx2), (57, ySx3), (58, ySx3), (59, ySx0), (60, .one (.c (xi 7))), (61, ySx4), (62, .one (.c (.bool (.o2 .nthB (.var 2) (.var 7))))), (63, ySx5), (64, ySx5)], [ySh0, (3, .res 0 (.var 1)), ySh1], 5, ((.o2 .nthB (.var 2) (.var 7)), true) :: ySp2⟩
def lSkip_2 : St := ⟨tms 90 [(2, ySx0), (3, ySx1), (7, .one (.c (xu 4))), (8, .one (.c (.int .i64 (.o2 (.arith .add .i64) (.var 7) (.int 1))))), (9, .one (.c (xi 5))), (13, .one (.c (xi 6))), (54, .one (.c (xi 7))), (55, ySx0), (56, ySx2), (57, ySx3), (58, ySx3), (59, ySx0), (60, .one (.c (xi 7))), (61, ySx4), (62, .one (.c (.bool (.o2 .nthB (.var 2) (.var 7))))), (63, ySx5), (64, ySx5), (65, .one (.c (xi 7))), (66, .one (.c (.int .i64 (.o2 (.arith .add .i64) (.var 7) (.int 1)))))], [ySh0, (3, .res 0 (.var 1)), ySh1], 5, ((.o2 .nthB (.var 2) (.var 7)), false) :: ySp2⟩
def lSkip_3 : St := ⟨tms 90 [(2, ySx0), (3, ySx1), (7, .one (.c (xu 4))), (8, .one (.c (xi 7))), (9, .one (.c (xi 5))), (13, .one (.c (xi 6))), (54, .one (.c (xi 7))), (55, ySx0), (56, ySx2), (57, ySx3), (58, ySx3), (59, ySx0), (60, .one (.c (xi 7))), (61, ySx4)], [ySh0, (3, .res 0 (.var 1)), ySh1], 5, ((.o2 .inB (.var 2) (.var 7)), false) :: ySp1⟩
def lSkip_4 : St := ⟨tms 90 [(2, ySx0), (3, ySx1), (7, .one (.c (xu 4))), (8, .one (.c (xi 7))), (9, .one (.c (xi 5))), (13, .one (.c (xi 6))), (54, .one (.c (xi 7))), (55, ySx0), (56, ySx2), (57, ySx3), (58, ySx3), (59, .tup []), (60, .tup []), (61, .tup []), (62, .tup []), (63, .tup []), (64, ySx6)], [ySh0, (3, .res 0 (.var 1)), ySh1], 5, ((.o2 .lss (.var 7) (.int 16)), false) :: []⟩
def lSkip_ls : List Leaf := [(.fail, lSkip_0), ((.exit 2), lSkip_1), (.norm, lSkip_2), (.fail, lSkip_3), ((.exit 2), lSkip_4)]
def lSort_0 : St := ⟨tms 90 [(2, ySx0), (3, ySx1), (7, .one (.c (xu 4))), (8, .one (.c (xi 6))), (9, .one (.c (xi 5))), (18, .one (.c (xi 5))), (19, ySx7), (20, ySx7), (21, .one (.c (xu 4))), (22, ySx8), (23, ySx8)], [ySh0, (3, .res 0 (.var 1)), ySh1], 5, ((.o2 .eql (.var 4) (.int 0)), true) :: ySp3⟩
def lSort_1 : St := ⟨tms 90 [(2, ySx0), (3, ySx1), (7, ySx9), (8, .one (.c (xi 6))), (9, ySx10), (10, .one (.c (.ptr 19 (.int 0)))), (11, .one (.c (.ptr 20 (.int 0)))), (12, .one (.c (.bool (.f1 12 (.var 4))))), (13, ySx11), (18, .one (.c (xi 5))), (19, ySx7), (20, ySx7), (21, .one (.c (xu 4))), (22, ySx8), (23, ySx8), (24, .one (.c (xi 5))), (25, ySx10), (26, .one (.agg [.int .i64 (.f1 0 (.var 0)), .int .i64 (.f1 1 (.var 0)), .int .i64 (.f1 2 (.var 0)), .int .i64 (.f1 3 (.var 0)), .int .i64 (.f1 4 (.var 0)), .int .i64 (.f1 5 (.var 0)), .int .i64 (.f1 6 (.var 0)), .ptr 3 (.int 0), xi 3])), (27, .one (.c (xu 4))), (28, .one (.agg [.int .u64 (.f1 80 (.f1 33 (.f2 20 (.var 1) (.o2 (.arith .add .i64) (.f1 21 (.f2 20 (.var 1) (.f2 0 (.var 0) (.f1 10 (.var 4))))) (.int 2))))), .bool (.f1 81 (.f1 33 (.f2 20 (.var 1) (.o2 (.arith .add .i64) (.f1 21 (.f2 20 (.var 1) (.f2 0 (.var 0) (.f1 10 (.var 4))))) (.int 2)))))])), (29, .tup [.agg [.int .i64 (.f1 10 (.var 4)), .int .i64 (.f1 11 (.var 4))], .c (.bool (.f1 12 (.var 4)))]), (30, .one (.c (xu 4))), (31, .tup [.agg [.int .i64 (.f1 10 (.var 4)), .int .i64 (.f1 11 (.var 4))], .c (.bool (.f1 12 (.var 4)))]), (32, .one (.agg [.int .i64 (.f1 10 (.var 4)), .int .i64 (.f1 11 (.var 4))])), (33, .one (.c (.bool (.f1 12 (.var 4))))), (34, .one (.c (.ptr 1 (.int 7)))), (35, .one (.c (.ptr 3 (.int 0)))), (36, .one (.c (.ptr 1 (.int 7)))), (37, .one (.c (.ptr 3 (.int 0)))), (38, ySx1), (39, .one (.agg [.int .i64 (.f1 0 (.var 0)), .int .i64 (.f1 1 (.var 0)), .int .i64 (.f1 2 (.var 0)), .int .i64 (.f1 3 (.var 0)), .int .i64 (.f1 4 (.var 0)), .int .i64 (.f1 5 (.var 0)), .int .i64 (.f1 6 (.var 0))])), (40, .one (.c (.ptr 20 (.int 0)))), (41, .one (.c (.int .i64 (.f1 10 (.var 4))))), (42, .one (.c (.int .i64 (.f2 0 (.var 0) (.f1 10 (.var 4)))))), (43, .one (.c (.int .u64 (.f2 20 (.var 1) (.f2 0 (.var 0) (.f1 10 (.var 4))))))), (44, .one (.agg [.int .i64 (.f1 20 (.f2 20 (.var 1) (.f2 0 (.var 0) (.f1 10 (.var 4))))), .int .i64 (.f1 21 (.f2 20 (.var 1) (.f2 0 (.var 0) (.f1 10 (.var 4))))), .int .i64 (.f1 22 (.f2 20 (.var 1) (.f2 0 (.var 0) (.f1 10 (.var 4))))), .int .i64 (.f1 23 (.f2 20 (.var 1) (.f2 0 (.var 0) (.f1 10 (.var 4)))))])), (45, .one (.c (.int .i64 (.f1 21 (.f2 20 (.var 1) (.f2 0 (.var 0) (.f1 10 (.var 4)))))))), (46, .one (.c (.int .i64 (.o2 (.arith .add .i64) (.f1 21 (.f2 20 (.var 1) (.f2 0 (.var 0) (.f1 10 (.var 4))))) (.int 1))))), (47, .one (.c (.int .u64 (.f2 20 (.var 1) (.o2 (.arith .add .i64) (.f1 21 (.f2 20 (.var 1) (.f2 0 (.var 0) (.f1 10 (.var 4))))) (.int 1)))))), (48, .one (.agg [.int .i64 (.f1 33 (.f2 20 (.var 1) (.o2 (.arith .add .i64) (.f1 21 (.f2 20 (.var 1) (.f2 0 (.var 0) (.f1 10 (.var 4))))) (.int 1)))), .bool (.f1 34 (.f2 20 (.var 1) (.o2 (.arith .add .i64) (.f1 21 (.f2 20 (.var 1) (.f2 0 (.var 0) (.f1 10 (.var 4))))) (.int 1)))), .int .i64 (.f1 35 (.f2 20 (.var 1) (.o2 (.arith .add .i64) (.f1 21 (.f2 20 (.var 1) (.f2 0 (.var 0) (.f1 10 (.var 4))))) (.int 1))))])), (49, ySx11), (50, .one (.c (.ptr 19 (.int 0)))), (51, ySx9), (52, .one (.c (.ptr 19 (.int 1)))), (53, .one (.c (.bool (.f1 81 (.f1 33 (.f2 20 (.var 1) (.o2 (.arith .add .i64) (.f1 21 (.f2 20 (.var 1) (.f2 0 (.var 0) (.f1 10 (.var 4))))) (.int 2))))))))], [ySh2, ySh3, ySh1, (3, .res 0 (.var 1)), ySh0], 38, ((.f1 81 (.f1 33 (.f2 20 (.var 1) (.o2 (.arith .add .i64) (.f1 21 (.f2 20 (.var 1) (.f2 0 (.var 0) (.f1 10 (.var 4))))) (.int 2))))), true) :: ySp4⟩
def lSort_2 : St := ⟨tms 90 [(2, ySx0), (3, ySx1), (7, ySx9), (8, .one (.c (.int .i64 (.o2 (.arith .add .i64) (.f2 200 (.var 2) (.var 6)) (.int 1))))), (9, ySx10), (13, ySx11), (24, .one (.c (xi 5))), (25, ySx10), (67, ySx12), (68, ySx0), (69, ySx2), (70, ySx13), (71, ySx13), (72, ySx11), (73, ySx12), (74, ySx14), (75, ySx14), (76, ySx12), (77, .one (.c (.int .i64 (.o2 (.arith .add .i64) (.f2 200 (.var 2) (.var 6)) (.int 1)))))], [ySh2, ySh3, ySh1, (3, .res 0 (.var 1)), ySh0], 38, ((.o2 .eql (.f1 33 (.f2 20 (.var 1) (.o2 (.arith .add .i64) (.f1 21 (.f2 20 (.var 1) (.f2 0 (.var 0) (.f1 10 (.var 4))))) (.int 1)))) (.f2 200 (.var 2) (.var 6))), true) :: ySp6⟩
def lSort_3 : St := ⟨tms 90 [(2, ySx0), (3, ySx1), (6, ySx6), (7, ySx9), (8, ySx12), (9, .one (.c (xi 5))), (13, ySx11), (67, ySx12), (68, ySx0), (69, ySx2), (70, ySx13), (71, ySx13), (72, ySx11), (73, ySx12), (74, ySx14), (75, ySx14)], [ySh2, ySh3, ySh1, (3, .res 0 (.var 1)), ySh0], 38, ((.o2 .eql (.f1 33 (.f2 20 (.var 1) (.o2 (.arith .add .i64) (.f1 21 (.f2 20 (.var 1) (.f2 0 (.var 0) (.f1 10 (.var 4))))) (.int 1)))) (.f2 200 (.var 2) (.var 6))), false) :: ySp6⟩
def lSort_4 : St := ⟨tms 90 [(2, ySx0), (3, ySx1), (6, ySx6), (7, ySx9), (8, ySx12), (9, .one (.c (xi 5))), (13, ySx11), (67, ySx12), (68, ySx0), (69, ySx2), (70, ySx13), (71, ySx13), (72, .tup []), (73, .tup []), (74, .tup []), (75, .one (.c (.bool (.bool true))))], [ySh2, ySh3, ySh1, (3, .res 0 (.var 1)), ySh0], 38, ((.o2 .lss (.f2 200 (.var 2) (.var 6)) (.int 16)), false) :: ySp5⟩
def lSort_5 : St := ⟨[], [], 0, ((.o2 .lss (.var 6) (.int 0)), true) :: ySp5⟩
def lSort_6 : St := ⟨[], [], 0, ((.o2 .eql (.o1 .lenB (.var 2)) (.int 16)), false) :: ySp5⟩
def lSort_7 : St := ⟨tms 90 [(2, ySx0), (3, ySx1), (7, .one (.c (xu 4))), (8, .one (.c (xi 6))), (9, .one (.c (xi 5))), (18, .one (.c (xi 5))), (19, ySx7), (20, ySx7), (21, .tup []), (22, .tup []), (23, ySx6)], [ySh0, (3, .res 0 (.var 1)), ySh1], 5, ((.o2 .lss (.var 5) (.int 60)), false) :: []⟩
def lSort_ls : List Leaf := [((.exit 0), lSort_0), (.norm, lSort_1), (.norm, lSort_2), (.ret, lSort_3), (.ret, lSort_4), (.fail, lSort_5), (.fail, lSort_6), ((.exit 0), lSort_7)]
def lRest_0 : St := ⟨tms 90 [(2, ySx0), (3, ySx1), (7, .one (.c (xu 4))), (8, .one (.c (xi 5))), (78, .one (.c (xi 5))), (79, ySx0), (80, ySx2), (81, ySx15), (82, ySx0), (83, .one (.c (xi 5)))], [ySh0, (3, .res 0 (.var 1)), ySh1], 5, ((.o2 .lss (.var 5) (.int 0)), true) :: ySp7⟩
def lRest_1 : St := ⟨tms 90 [(2, ySx0), (3, ySx1), (6, ySx6), (7, .one (.c (xu 4))), (8, .one (.c (xi 5))), (78, .one (.c (xi 5))), (79, ySx0), (80, ySx2), (81, ySx15), (82, ySx0), (83, .one (.c (xi 5))), (84, ySx16), (85, .one (.c (.bool (.o2 .nthB (.var 2) (.var 5)))))], [ySh0, (3, .res 0 (.var 1)), ySh1], 5, ((.o2 .nthB (.var 2) (.var 5)), true) :: ySp9⟩
def lRest_2 : St := ⟨tms 90 [(2, ySx0), (3, ySx1), (7, .one (.c (xu 4))), (8, ySx10), (78, .one (.c (xi 5))), (79, ySx0), (80, ySx2), (81, ySx15), (82, ySx0), (83, .one (.c (xi 5))), (84, ySx16), (85, .one (.c (.bool (.o2 .nthB (.var 2) (.var 5))))), (86, .one (.c (xi 5))), (87, ySx10)], [ySh0, (3, .res 0 (.var 1)), ySh1], 5, ((.o2 .nthB (.var 2) (.var 5)), false) :: ySp9⟩
def lRest_3 : St := ⟨tms 90 [(2, ySx0), (3, ySx1), (7, .one (.c (xu 4))), (8, .one (.c (xi 5))), (78, .one (.c (xi 5))), (79, ySx0), (80, ySx2), (81, ySx15), (82, ySx0), (83, .one (.c (xi 5))), (84, ySx16)], [ySh0, (3, .res 0 (.var 1)), ySh1], 5, ((.o2 .inB (.var 2) (.var 5)), false) :: ySp8⟩
def lRest_4 : St := ⟨tms 90 [(2, ySx0), (3, ySx1), (7, .one (.c (xu 4))), (8, .one (.c (xi 5))), (78, .one (.c (xi 5))), (79, ySx0), (80, ySx2), (81, ySx15)], [ySh0, (3, .res 0 (.var 1)), ySh1], 5, ((.o2 .lss (.var 5) (.int 16)), false) :: []⟩
def lRest_ls : List Leaf := [(.fail, lRest_0), (.ret, lRest_1), (.norm, lRest_2), (.fail, lRest_3), ((.exit 4), lRest_4)]
end Go.Fl

/- 'sorted': its loops, shown. -/
namespace Go.Fl
open Go Go.Sx Go.Proofs
set_option maxRecDepth 100000
set_option linter.unusedVariables false

theorem ptM {v : V} {pa : Path} (h : PT SG v pa) (i : Nat) {e : E} {b : Bool} (hi : pa[i]? = some (e, b)) : (e.den SG v).toBool = b := h (e, b) (List.mem_of_getElem? hi)
theorem loop_okM {tm : CH} (htm : CallOK SG prog tm) {f : Nat} {p : List Nat} {t : LoopT} {ls : List Leaf} {lh : LH} (hlh : LoopOK SG prog (loopAt f p) lh) (μ : V → Nat)
    (hls : execL tab (callX tab tm 20 20) 20 (loopAt f p) lh ⟨t.tm, t.pre, t.nx, []⟩ = some ls) (hnx : t.outs.all (fun y => decide (t.nx ≤ y.2.nx)) = true)
    (h : AllL ls fun x => ∀ v : V, PT SG v x.2.pa → ReqL t v → RoundOK SG t μ x v) : t.ok SG prog (loopAt f p) :=
  LoopT.ok_of (fun Q st ls n o w a h1 h2 h3 => execL_sound tab_ok (callX_sound tab_ok htm 20 20) 20 _ lh hlh Q st ls n o w a h1 h2 h3) hls μ hnx h
theorem tmEq_set {v : V} {z : SV} : ∀ {l r : List SV} {d : Nat}, tmEq SG v l (r.set d z) → (∀ y, r[d]? = some y → y.isAny = false ∧ ∀ n : Env U, n.v = v → y.den SG n = z.den SG n) → tmEq SG v l r
  | [], [], _, h, _ => h
  | x :: l, y :: r, 0, h, k => by
    obtain ⟨h0, h3⟩ := h
    obtain ⟨k1, k2⟩ := k y rfl
    refine ⟨?_, h3⟩
    rcases h0 with h4 | ⟨_, h4⟩
    · exact .inl h4
    · exact .inr ⟨k1, fun n hn => (k2 n hn).trans (h4 n hn)⟩
  | x :: l, y :: r, d + 1, h, k => ⟨h.1, tmEq_set h.2 k⟩
  | [], _ :: _, 0, h, _ => h.elim
  | [], _ :: _, _ + 1, h, _ => h.elim
  | _ :: _, [], _, h, _ => h.elim
theorem round_exitE {t : LoopT} {μ : V → Nat} {i : Nat} {s y : St} {v : V} (hy : ((.exit i, y) : Leaf) ∈ t.outs) (h1 : tmEq SG v y.tm s.tm) (h2 : EndsOK v s.H y.H) (h3 : PT SG v y.pa) : RoundOK SG t μ (.exit i, s) v :=
  ⟨_, hy, rfl, h1, h2, h3⟩
theorem fail_not {t : LoopT} {v : V} {s : St} (hq : ReqL t v) (hm : ((.fail, s) : Leaf) ∈ t.outs) (h : PT SG v s.pa) : False := hq _ hm rfl h
theorem neg_not {t : LoopT} {v : V} {i : Nat} (hq : ReqL t v) (hm : ((.fail, neg i) : Leaf) ∈ t.outs) : ¬ (v i).toInt < 0 := fun h => fail_not hq hm fun x hx => by rw [List.mem_singleton.1 hx]; exact decide_eq_true h
theorem len_of {t : LoopT} {v : V} (hq : ReqL t v) (hm : ((.fail, len16) : Leaf) ∈ t.outs) : (v 2).toBools.length = 16 := by
  by_cases h : (v 2).toBools.length = 16
  · exact h
  · exact (fail_not hq hm fun x hx => by
      rw [List.mem_singleton.1 hx]
      show (((v 2).toBools.length : Int) == 16) = false
      exact beq_eq_false_iff_ne.2 (by omega)).elim
theorem neg_on {v : V} {i : Nat} {k : Int} (σ : V) (h : (σ i).toInt = k) (h0 : ¬ k < 0) : ¬ PT SG σ (neg i).pa := fun hc => h0 (by rw [← h]; exact of_dec_t (pt1 hc))
theorem len_on {σ : V} (h : (σ 2).toBools.length = 16) : ¬ PT SG σ len16.pa := fun hc => by
  have h1 : (((σ 2).toBools.length : Int) == 16) = false := pt1 hc
  rw [h] at h1; cases h1

/-! ### on to the next one that is in -/
def μK (v : V) : Nat := (16 - (v 7).toInt).toNat
abbrev skV (v : V) := skipTo (v 2).toBools (16 - (v 7).toInt).toNat (v 7).toInt
def sσ : Nat → E := fun j => match j with | 7 => .o2 (.arith .add .i64) (.var 7) (.int 1) | j => .var j
theorem lSkip_ok : lSkip.ok SG prog (loopAt 39 qSkip) := by
  have h0 : ∀ v : V, ReqL lSkip v → ¬ (v 7).toInt < 0 := fun v hq => neg_not hq (.tail _ (.head _))
  have hl : ∀ v : V, ReqL lSkip v → (v 2).toBools.length = 16 := fun v hq => len_of hq (.tail _ (.tail _ (.head _)))
  have hex : ∀ (s : St) (v : V), skV v = (v 7).toInt → tmSame (srTm [(7, uE (.var 4)), (8, iE (.f2 200 (.var 2) (.var 7))), (9, iE (.var 5)), (13, iE (.var 6))]) (s.tm.set 8 (iE (.f2 200 (.var 2) (.var 7)))) = true → s.tm[8]? = some (iE (.var 7)) →
      EndsOK v s.H srH → RoundOK SG lSkip μK (.exit 2, s) v := fun s v h1 h2 h3 h4 => by
    refine round_exitE (.head _) (tmEq_set (tmSame_eq h2) fun y hy => ?_) h4 fun x hx => by cases hx
    rw [h3] at hy
    simp only [Option.some.injEq] at hy
    subst hy
    refine ⟨rfl, fun n hn => ?_⟩
    subst hn
    show Value.int .i64 (n.v 7).toInt = Value.int .i64 (skV n.v)
    rw [h1]
  refine loop_ok tm14a_ok (ls := lSkip_ls) μK (by kernel_rfl) (by kernel_rfl) (allL_cons ?_ <| allL_cons ?_ <| allL_cons ?_ <| allL_cons ?_ <| allL_cons ?_ <| allL_nil _)
  all_goals intro v hp hq
  · exact absurd (of_dec_t (ptM hp 0 rfl)) (h0 v hq)
  · have hk : (v 7).toInt < 16 := of_dec_t (ptM hp 3 rfl)
    have hb : (v 2).toBools.getD (v 7).toInt.toNat false = true := ptM hp 0 rfl
    refine hex _ v ?_ (by kernel_rfl) rfl (ends_cons rfl (eqv_rfl _ _) <| ends_cons rfl (eqv_rfl _ _) <| ends_cons rfl (eqv_rfl _ _) <| ends_nil _ _)
    obtain ⟨f, hf⟩ : ∃ f, (16 - (v 7).toInt).toNat = f + 1 := ⟨(16 - (v 7).toInt).toNat - 1, by omega⟩
    rw [skV, hf]
    simp only [skipTo, hb, Bool.not_true, Bool.and_false, Bool.false_eq_true, if_false]
  · have hk : (v 7).toInt < 16 := of_dec_t (ptM hp 3 rfl)
    have hb : (v 2).toBools.getD (v 7).toInt.toNat false = false := ptM hp 0 rfl
    obtain ⟨hf, hs⟩ := toNat_on (h0 v hq) hk (by decide)
    have key : E.den SG (fun j => (sσ j).den SG v) (.f2 200 (.var 2) (.var 7)) = E.den SG v (.f2 200 (.var 2) (.var 7)) := by
      show G.int (skipTo (v 2).toBools (16 - i64 ((v 7).toInt + 1)).toNat (i64 ((v 7).toInt + 1))) = G.int (skV v)
      rw [skV, hf]
      simp only [skipTo, hb, (ltT _ _).2 hk, Bool.not_false, Bool.and_true, if_true]
    refine round_on' 7 [.f2 200 (.var 2) (.var 7)] sσ (by kernel_rfl) (pcs_cons rfl (eqv_rfl _ _) <| pcs_cons rfl (eqv_rfl _ _) <| pcs_cons rfl (eqv_rfl _ _) <| pcs_nil _ _ _) ?_ ?_ (by kernel_rfl) ?_ ?_
    · show (16 - i64 ((v 7).toInt + 1)).toNat < (16 - (v 7).toInt).toNat
      omega
    · intro y hy hf
      rcases List.mem_cons.1 hy with rfl | hy
      · cases hf
      · rcases List.mem_cons.1 hy with rfl | hy
        · exact neg_on (v := v) _ (k := i64 ((v 7).toInt + 1)) rfl (by have := h0 v hq; omega)
        · rw [List.mem_singleton.1 hy]
          exact len_on (hl v hq)
    · intro i hi
      match i, hi with
      | 0, _ => rfl
      | 1, _ => rfl
      | 2, _ => rfl
      | 3, _ => rfl
      | 4, _ => rfl
      | 5, _ => rfl
      | 6, _ => rfl
    · intro e he
      rw [List.mem_singleton.1 he]
      exact key
  · have hk : (v 7).toInt < 16 := of_dec_t (ptM hp 2 rfl)
    have h1 : ¬ (v 7).toInt.toNat < (v 2).toBools.length := of_dec_f (ptM hp 0 rfl)
    have := h0 v hq
    have := hl v hq
    omega
  · have hk : ¬ (v 7).toInt < 16 := of_dec_f (ptM hp 0 rfl)
    refine hex _ v ?_ (by kernel_rfl) rfl (ends_cons rfl (eqv_rfl _ _) <| ends_cons rfl (eqv_rfl _ _) <| ends_cons rfl (eqv_rfl _ _) <| ends_nil _ _)
    rw [skV, show (16 - (v 7).toInt).toNat = 0 by omega]; rfl

/-! ### what is left may not be in -/
def μR (v : V) : Nat := (16 - (v 5).toInt).toNat
abbrev rsV (v : V) := restNo (v 2).toBools (16 - (v 5).toInt).toNat (v 5).toInt
def rσ : Nat → E := fun j => match j with | 5 => .o2 (.arith .add .i64) (.var 5) (.int 1) | j => .var j
theorem lRest_ok : lRest.ok SG prog (loopAt 39 qRest) := by
  have h0 : ∀ v : V, ReqL lRest v → ¬ (v 5).toInt < 0 := fun v hq => neg_not hq (.tail _ (.tail _ (.head _)))
  have hl : ∀ v : V, ReqL lRest v → (v 2).toBools.length = 16 := fun v hq => len_of hq (.tail _ (.tail _ (.tail _ (.head _))))
  refine loop_ok tm14a_ok (ls := lRest_ls) μR (by kernel_rfl) (by kernel_rfl) (allL_cons ?_ <| allL_cons ?_ <| allL_cons ?_ <| allL_cons ?_ <| allL_cons ?_ <| allL_nil _)
  all_goals intro v hp hq
  · exact absurd (of_dec_t (ptM hp 0 rfl)) (h0 v hq)
  · have hk : (v 5).toInt < 16 := of_dec_t (ptM hp 3 rfl)
    have hb : (v 2).toBools.getD (v 5).toInt.toNat false = true := ptM hp 0 rfl
    refine round_ret (.tail _ (.head _)) (by kernel_rfl) (ends_cons rfl (eqv_rfl _ _) <| ends_cons rfl (eqv_rfl _ _) <| ends_nil _ _) fun x hx => ?_
    rw [List.mem_singleton.1 hx]
    show rsV v = false
    obtain ⟨f, hf⟩ : ∃ f, (16 - (v 5).toInt).toNat = f + 1 := ⟨(16 - (v 5).toInt).toNat - 1, by omega⟩
    rw [rsV, hf]
    simp only [restNo, hb, (ltT _ _).2 hk, if_true]
  · have hk : (v 5).toInt < 16 := of_dec_t (ptM hp 3 rfl)
    have hb : (v 2).toBools.getD (v 5).toInt.toNat false = false := ptM hp 0 rfl
    obtain ⟨hf, hs⟩ := toNat_on (h0 v hq) hk (by decide)
    have key : E.den SG (fun j => (rσ j).den SG v) rstE = E.den SG v rstE := by
      show G.bool (restNo (v 2).toBools (16 - i64 ((v 5).toInt + 1)).toNat (i64 ((v 5).toInt + 1))) = G.bool (rsV v)
      rw [rsV, hf]
      simp only [restNo, hb, (ltT _ _).2 hk, Bool.false_eq_true, if_false, if_true]
    refine round_on' 5 [rstE] rσ (by kernel_rfl) (pcs_cons rfl (eqv_rfl _ _) <| pcs_cons rfl (eqv_rfl _ _) <| pcs_cons rfl (eqv_rfl _ _) <| pcs_nil _ _ _) ?_ ?_ (by kernel_rfl) ?_ ?_
    · show (16 - i64 ((v 5).toInt + 1)).toNat < (16 - (v 5).toInt).toNat
      omega
    · intro y hy hf
      rcases List.mem_cons.1 hy with rfl | hy
      · cases hf
      · rcases List.mem_cons.1 hy with rfl | hy
        · cases hf
        · rcases List.mem_cons.1 hy with rfl | hy
          · exact neg_on (v := v) _ (k := i64 ((v 5).toInt + 1)) rfl (by have := h0 v hq; omega)
          · rw [List.mem_singleton.1 hy]
            exact len_on (hl v hq)
    · intro i hi
      match i, hi with
      | 0, _ => rfl
      | 1, _ => rfl
      | 2, _ => rfl
      | 3, _ => rfl
      | 4, _ => rfl
    · intro e he
      rw [List.mem_singleton.1 he]
      exact key
  · have hk : (v 5).toInt < 16 := of_dec_t (ptM hp 2 rfl)
    have h1 : ¬ (v 5).toInt.toNat < (v 2).toBools.length := of_dec_f (ptM hp 0 rfl)
    have := h0 v hq
    have := hl v hq
    omega
  · have hk : ¬ (v 5).toInt < 16 := of_dec_f (ptM hp 0 rfl)
    refine round_exit (.head _) (by kernel_rfl) (ends_cons rfl (eqv_rfl _ _) <| ends_cons rfl (eqv_rfl _ _) <| ends_nil _ _) fun x hx => ?_
    rw [List.mem_singleton.1 hx]
    show rsV v = true
    rw [rsV, show (16 - (v 5).toInt).toNat = 0 by omega]; rfl
end Go.Fl

/- 'sorted': its outer loop, shown. -/
namespace Go.Fl
open Go Go.Sx Go.Proofs
set_option maxRecDepth 100000
set_option linter.unusedVariables false

theorem skip_ge (ins : List Bool) : ∀ (f : Nat) (k : Int), 0 ≤ k → k ≤ 16 → 0 ≤ skipTo ins f k ∧ skipTo ins f k ≤ 16
  | 0, k, h, h' => ⟨h, h'⟩
  | f + 1, k, h, h' => by
    simp only [skipTo]
    split
    · rename_i hc
      simp only [Bool.and_eq_true, ltT] at hc
      rw [i64_in' (by omega)]
      exact skip_ge ins f (k + 1) (by omega) (by omega)
    · exact ⟨h, h'⟩
theorem skip_big (ins : List Bool) (k : Int) (h : ¬ k ≤ 16) : skipTo ins (16 - k).toNat k = k := by
  rw [show (16 - k).toNat = 0 by omega]; rfl
theorem skip_pos (ins : List Bool) (k : Int) (h : ¬ k < 0) : 0 ≤ skipTo ins (16 - k).toNat k := by
  by_cases hk : k ≤ 16
  · exact (skip_ge ins _ k (by omega) hk).1
  · rw [skip_big ins k hk]; omega

def μN (v : V) : Nat := (60 - (v 5).toInt).toNat
abbrev srV (v : V) (f : Nat) := sortGo (gcfg (v 0)) (gmem (v 1)) (v 2).toBools f (v 4).toInt (v 6).toInt
theorem srtE_den (v : V) : srtE.den SG v = .u (.pair (.bool (srV v (60 - (v 5).toInt).toNat).1) (.quad (srV v (60 - (v 5).toInt).toNat).2.1 (srV v (60 - (v 5).toInt).toNat).2.2 0 0)) := rfl
def nxE (j : Int) : E := .f1 33 (.f2 20 (.var 1) (.o2 (.arith .add .i64) (.f1 21 (.f2 20 (.var 1) (.f2 0 (.var 0) (.f1 10 (.var 4))))) (.int j)))
theorem sort_ret {s : St} {v : V} (h : (srV v (60 - (v 5).toInt).toNat).1 = false) (ht : tmSame (tms 90 [(6, bE (.bool false))]) s.tm = true) (he : EndsOK v s.H srR) : RoundOK SG lSort μN (.ret, s) v := by
  refine round_ret (.tail _ (.head _)) ht he fun x hx => ?_
  rw [List.mem_singleton.1 hx]
  show (gfst (srtE.den SG v)).toBool = false
  rw [srtE_den, h]; rfl
theorem sort_exit {s : St} {v : V} (h : srV v (60 - (v 5).toInt).toNat = (true, (v 4).toInt, (v 6).toInt))
    (ht : tmSame (srTm [(7, uE (.f1 204 (.f1 98 srtE))), (8, iE (.f1 205 (.f1 98 srtE)))]) ((s.tm.set 7 (uE (.f1 204 (.f1 98 srtE)))).set 8 (iE (.f1 205 (.f1 98 srtE)))) = true)
    (h7 : s.tm[7]? = some (uE (.var 4))) (h8 : (s.tm.set 7 (uE (.f1 204 (.f1 98 srtE))))[8]? = some (iE (.var 6))) (he : EndsOK v s.H srH) : RoundOK SG lSort μN (.exit 0, s) v := by
  refine round_exitE (.head _) (tmEq_set (tmEq_set (tmSame_eq ht) fun y hy => ?_) fun y hy => ?_) he fun x hx => ?_
  · rw [h8] at hy
    simp only [Option.some.injEq] at hy
    subst hy
    refine ⟨rfl, fun n hn => ?_⟩
    subst hn
    show Value.int .i64 (n.v 6).toInt = Value.int .i64 (F1 205 (gsnd (srtE.den SG n.v))).toInt
    rw [srtE_den, h]; rfl
  · rw [h7] at hy
    simp only [Option.some.injEq] at hy
    subst hy
    refine ⟨rfl, fun n hn => ?_⟩
    subst hn
    show Value.int .u64 (n.v 4).toInt = Value.int .u64 (F1 204 (gsnd (srtE.den SG n.v))).toInt
    rw [srtE_den, h]; rfl
  · rw [List.mem_singleton.1 hx]
    show (gfst (srtE.den SG v)).toBool = true
    rw [srtE_den, h]; rfl
theorem sort_norm {s : St} {v : V} (σ : Nat → E) (hσ : ∀ i, i < 4 → σ i = .var i) (a k : Int) (h4 : ((σ 4).den SG v).toInt = a) (h5 : (σ 5).den SG v = .int (i64 ((v 5).toInt + 1))) (h6 : ((σ 6).den SG v).toInt = k) (hk : 0 ≤ k)
    (hn0 : ¬ (v 5).toInt < 0) (hn : (v 5).toInt < 60) (hl : (v 2).toBools.length = 16)
    (h : ∀ f, srV v (f + 1) = sortGo (gcfg (v 0)) (gmem (v 1)) (v 2).toBools f a k) (ht : tmFit σ id lSort.tm s.tm = true) (hH : PcsOK v s.H σ srH) : RoundOK SG lSort μN (.norm, s) v := by
  obtain ⟨hf, hs⟩ := toNat_on hn0 hn (by decide)
  have e0 : (σ 0).den SG v = v 0 := by rw [hσ 0 (by decide)]; rfl
  have e1 : (σ 1).den SG v = v 1 := by rw [hσ 1 (by decide)]; rfl
  have e2 : (σ 2).den SG v = v 2 := by rw [hσ 2 (by decide)]; rfl
  have key : E.den SG (fun j => (σ j).den SG v) srtE = E.den SG v srtE := by
    rw [srtE_den, srtE_den]
    simp only [srV, e0, e1, e2, h4, h5, h6, G.toInt_int]
    rw [hf]
    have := h (60 - i64 ((v 5).toInt + 1)).toNat
    simp only [srV] at this
    rw [this]
  refine round_on' 4 [.f1 204 (.f1 98 srtE), .f1 205 (.f1 98 srtE), .f1 97 srtE] σ ht hH ?_ ?_ (by kernel_rfl) ?_ ?_
  · show (60 - ((σ 5).den SG v).toInt).toNat < (60 - (v 5).toInt).toNat
    rw [h5]
    simp only [G.toInt_int]
    omega
  · intro y hy hf
    rcases List.mem_cons.1 hy with rfl | hy
    · cases hf
    · rcases List.mem_cons.1 hy with rfl | hy
      · cases hf
      · rcases List.mem_cons.1 hy with rfl | hy
        · refine neg_on (v := v) _ (k := i64 ((v 5).toInt + 1)) ?_ (by omega)
          simp only [h5, G.toInt_int]
        · rcases List.mem_cons.1 hy with rfl | hy
          · exact neg_on (v := v) _ (k := k) h6 (by omega)
          · rw [List.mem_singleton.1 hy]
            exact len_on (by simp only [e2]; exact hl)
  · intro i hi
    rw [hσ i hi]; rfl
  · intro e he
    rcases List.mem_cons.1 he with rfl | he
    · exact congrArg (fun r => F1 204 (F1 98 r)) key
    · rcases List.mem_cons.1 he with rfl | he
      · exact congrArg (fun r => F1 205 (F1 98 r)) key
      · rw [List.mem_singleton.1 he]
        exact congrArg (fun r => F1 97 r) key
theorem in_sorted : codeAt (loopAt 39 qSort) qRel = some (.loop (loopAt 39 qSkip)) := by kernel_rfl
theorem lhSkip_ok : LoopOK SG prog (loopAt 39 qSort) lhSkip := lhOf_ok fun x hx body hb => by
  rw [List.mem_singleton.1 hx] at hb ⊢
  simp only [in_sorted, Option.some.injEq, Code.loop.injEq] at hb
  rw [← hb]; exact lSkip_ok
theorem lSort_ok : lSort.ok SG prog (loopAt 39 qSort) := by
  have hn0 : ∀ v : V, ReqL lSort v → ¬ (v 5).toInt < 0 := fun v hq => neg_not hq (.tail _ (.tail _ (.head _)))
  have hk0 : ∀ v : V, ReqL lSort v → ¬ (v 6).toInt < 0 := fun v hq => neg_not hq (.tail _ (.tail _ (.tail _ (.head _))))
  have hl : ∀ v : V, ReqL lSort v → (v 2).toBools.length = 16 := fun v hq => len_of hq (.tail _ (.tail _ (.tail _ (.tail _ (.head _)))))
  have suc : ∀ v : V, (v 5).toInt < 60 → ∃ f, (60 - (v 5).toInt).toNat = f + 1 := fun v h => ⟨(60 - (v 5).toInt).toNat - 1, by omega⟩
  refine loop_okM tm14a_ok lhSkip_ok (ls := lSort_ls) μN (by kernel_rfl) (by kernel_rfl) (allL_cons ?_ <| allL_cons ?_ <| allL_cons ?_ <| allL_cons ?_ <| allL_cons ?_ <| allL_cons ?_ <| allL_cons ?_ <| allL_cons ?_ <| allL_nil _)
  all_goals intro v hp hq
  · have ha : ((v 4).toInt == 0) = true := ptM hp 0 rfl
    obtain ⟨f, hf⟩ := suc v (of_dec_t (ptM hp 1 rfl))
    exact sort_exit (by rw [hf]; simp only [srV, sortGo, ha, if_true]) (by kernel_rfl) rfl rfl (ends_cons rfl (eqv_rfl _ _) <| ends_cons rfl (eqv_rfl _ _) <| ends_cons rfl (eqv_rfl _ _) <| ends_nil _ _)
  · have ha : ((v 4).toInt == 0) = false := ptM hp 1 rfl
    have hg : linkGone (nodeV (gcfg (v 0)) (gmem (v 1)) (v 4).toInt 2) = true := ptM hp 0 rfl
    exact sort_norm (fun j => match j with | 4 => .f1 80 (nxE 2) | 5 => .o2 (.arith .add .i64) (.var 5) (.int 1) | j => .var j)
      (fun i hi => match i, hi with | 0, _ => rfl | 1, _ => rfl | 2, _ => rfl | 3, _ => rfl) (linkNext (nodeV (gcfg (v 0)) (gmem (v 1)) (v 4).toInt 2)) (v 6).toInt rfl rfl rfl (by have := hk0 v hq; omega)
      (hn0 v hq) (of_dec_t (ptM hp 2 rfl)) (hl v hq) (fun f => by simp only [srV, sortGo, ha, hg, Bool.false_eq_true, if_false, if_true]) (by kernel_rfl)
      (pcs_cons rfl (eqv_rfl _ _) <| pcs_cons rfl (eqv_rfl _ _) <| pcs_cons rfl (eqv_rfl _ _) <| pcs_nil _ _ _)
  · have he : (nodeV (gcfg (v 0)) (gmem (v 1)) (v 4).toInt 1 == skipTo (v 2).toBools (16 - (v 6).toInt).toNat (v 6).toInt) = true := ptM hp 0 rfl
    have hk : skipTo (v 2).toBools (16 - (v 6).toInt).toNat (v 6).toInt < 16 := of_dec_t (ptM hp 1 rfl)
    have hg : linkGone (nodeV (gcfg (v 0)) (gmem (v 1)) (v 4).toInt 2) = false := ptM hp 2 rfl
    have ha : ((v 4).toInt == 0) = false := ptM hp 3 rfl
    have hpos := skip_pos (v 2).toBools (v 6).toInt (hk0 v hq)
    exact sort_norm (fun j => match j with | 4 => .f1 80 (nxE 2) | 5 => .o2 (.arith .add .i64) (.var 5) (.int 1) | 6 => .o2 (.arith .add .i64) (.f2 200 (.var 2) (.var 6)) (.int 1) | j => .var j)
      (fun i hi => match i, hi with | 0, _ => rfl | 1, _ => rfl | 2, _ => rfl | 3, _ => rfl) (linkNext (nodeV (gcfg (v 0)) (gmem (v 1)) (v 4).toInt 2)) (i64 (skipTo (v 2).toBools (16 - (v 6).toInt).toNat (v 6).toInt + 1)) rfl rfl rfl
      (by rw [i64_in' (by omega)]; omega)
      (hn0 v hq) (of_dec_t (ptM hp 4 rfl)) (hl v hq) (fun f => by simp only [srV, sortGo, ha, hg, he, (ltT _ _).2 hk, Bool.and_true, Bool.false_eq_true, if_false, if_true]) (by kernel_rfl)
      (pcs_cons rfl (eqv_rfl _ _) <| pcs_cons rfl (eqv_rfl _ _) <| pcs_cons rfl (eqv_rfl _ _) <| pcs_nil _ _ _)
  · have he : (nodeV (gcfg (v 0)) (gmem (v 1)) (v 4).toInt 1 == skipTo (v 2).toBools (16 - (v 6).toInt).toNat (v 6).toInt) = false := ptM hp 0 rfl
    have hg : linkGone (nodeV (gcfg (v 0)) (gmem (v 1)) (v 4).toInt 2) = false := ptM hp 2 rfl
    have ha : ((v 4).toInt == 0) = false := ptM hp 3 rfl
    obtain ⟨f, hf⟩ := suc v (of_dec_t (ptM hp 4 rfl))
    exact sort_ret (by rw [hf]; simp only [srV, sortGo, ha, hg, he, Bool.and_false, Bool.false_eq_true, if_false]) (by kernel_rfl) (ends_cons rfl (eqv_rfl _ _) <| ends_cons rfl (eqv_rfl _ _) <| ends_nil _ _)
  · have hk : ltI (skipTo (v 2).toBools (16 - (v 6).toInt).toNat (v 6).toInt) 16 = false := ptM hp 0 rfl
    have hg : linkGone (nodeV (gcfg (v 0)) (gmem (v 1)) (v 4).toInt 2) = false := ptM hp 1 rfl
    have ha : ((v 4).toInt == 0) = false := ptM hp 2 rfl
    obtain ⟨f, hf⟩ := suc v (of_dec_t (ptM hp 3 rfl))
    exact sort_ret (by rw [hf]; simp only [srV, sortGo, ha, hg, hk, Bool.false_and, Bool.false_eq_true, if_false]) (by kernel_rfl) (ends_cons rfl (eqv_rfl _ _) <| ends_cons rfl (eqv_rfl _ _) <| ends_nil _ _)
  · exact absurd (of_dec_t (ptM hp 0 rfl)) (hk0 v hq)
  · have h1 : (((v 2).toBools.length : Int) == 16) = false := ptM hp 0 rfl
    rw [hl v hq] at h1; cases h1
  · have hn : ¬ (v 5).toInt < 60 := of_dec_f (ptM hp 0 rfl)
    exact sort_exit (by rw [show (60 - (v 5).toInt).toNat = 0 by omega]; rfl) (by kernel_rfl) rfl rfl (ends_cons rfl (eqv_rfl _ _) <| ends_cons rfl (eqv_rfl _ _) <| ends_cons rfl (eqv_rfl _ _) <| ends_nil _ _)

/-! ### the function -/
theorem at_Sorted : CallAt SG prog 39 (callL tab tm14a 20 20 lhSorted 39) := callL_at tab_ok tm14a_ok (lh_ok fun x hx => by
  rcases List.mem_cons.1 hx with rfl | hx
  · exact lSort_ok
  · rw [List.mem_singleton.1 hx]; exact lRest_ok)
def gSorted : GSpec := ⟨[ev3, uE (.var 4), inV 3], [(2, .res 0 (.var 1)), (3, .row .bool (.var 5))], 4,
  [⟨bE (.f3 206 (.f2 60 (.var 2) (.var 4)) (.var 1) (.var 5)), none, [(2, .res 0 (.var 1)), (3, .row .bool (.var 5))], 4, []⟩], [[(.o2 .eql (.o1 .lenB (.var 5)) (.int 16), false)]]⟩
end Go.Fl

/- 'sorted': the function. -/
namespace Go.Fl
open Go Go.Sx Go.Proofs
set_option maxRecDepth 100000
set_option linter.unusedVariables false

theorem sort_kpos (c : Cfg) (m : Mem) (ins : List Bool) : ∀ (f : Nat) (a k : Int), 0 ≤ k → 0 ≤ (sortGo c m ins f a k).2.2
  | 0, a, k, h => h
  | f + 1, a, k, h => by
    simp only [sortGo]
    split
    · exact h
    · split
      · exact sort_kpos c m ins f _ k h
      · split
        · rename_i hc
          simp only [Bool.and_eq_true, ltT] at hc
          have := skip_pos ins k (by omega)
          exact sort_kpos c m ins f _ _ (by rw [i64_in' (by omega)]; omega)
        · exact h
def hdE : E := .f1 80 (.f1 33 (.f2 20 (.var 1) (.o2 (.arith .add .i64) (.f1 21 (.f2 20 (.var 1) (.f2 0 (.var 2) (.f1 10 (.var 4))))) (.int 2))))
def goE : E := .f4 203 (.var 2) (.var 1) (.var 5) (.f4 50 hdE (.int 0) (.int 0) (.int 0))
abbrev goS (v : V) := sortGo (gcfg (v 2)) (gmem (v 1)) (v 5).toBools 60 (linkNext (nodeV (gcfg (v 2)) (gmem (v 1)) (v 4).toInt 2)) 0
theorem sixty : ((60 : Int) - 0).toNat = 60 := by decide
theorem add_den (v : V) (a b : E) : E.den SG v (.o2 (.arith .add .i64) a b) = .int (i64 ((a.den SG v).toInt + (b.den SG v).toInt)) := rfl
theorem hdE_den (v : V) : hdE.den SG v = .int (linkNext (nodeV (gcfg (v 2)) (gmem (v 1)) (v 4).toInt 2)) := by
  show F1 80 (F1 33 (F2 20 (v 1) (E.den SG v (.o2 (.arith .add .i64) (.f1 21 (.f2 20 (.var 1) (.f2 0 (.var 2) (.f1 10 (.var 4))))) (.int 2))))) = _
  rw [add_den]
  unfold nodeV
  rfl
theorem sgR_at (c : Cfg) (m : Mem) (ins : List Bool) (a : Int) : sgR c m ins (a, 0, 0, 0) = sortGo c m ins 60 a 0 := by
  show sortGo c m ins ((60 : Int) - 0).toNat a 0 = _
  rw [sixty]
theorem f4_203 (a b g d : GU) : F4 203 a b g d = .u (.pair (.bool (sgR (gcfg a) (gmem b) g.toBools (gquad d)).1) (.quad (sgR (gcfg a) (gmem b) g.toBools (gquad d)).2.1 (sgR (gcfg a) (gmem b) g.toBools (gquad d)).2.2 0 0)) := rfl
theorem goE_den (v : V) : goE.den SG v = .u (.pair (.bool (goS v).1) (.quad (goS v).2.1 (goS v).2.2 0 0)) := by
  have e : gquad (F4 50 (hdE.den SG v) (.int 0) (.int 0) (.int 0)) = (linkNext (nodeV (gcfg (v 2)) (gmem (v 1)) (v 4).toInt 2), 0, 0, 0) := by
    rw [hdE_den]; rfl
  show F4 203 (v 2) (v 1) (v 5) (F4 50 (hdE.den SG v) (.int 0) (.int 0) (.int 0)) = _
  rw [f4_203, e, sgR_at]
def stH : SH := [(3, .row .bool (.var 5)), (2, .res 0 (.var 1))]
def stS : List CO := [
  ⟨true, bE (.o2 .eql (.f1 204 (.f1 98 goE)) (.int 0)), stH, 19, [(.f2 201 (.var 5) (.f1 205 (.f1 98 goE)), true), (.f1 97 goE, true)]⟩,
  ⟨true, bE (.bool false), stH, 19, [(.f2 201 (.var 5) (.f1 205 (.f1 98 goE)), false), (.f1 97 goE, true)]⟩,
  ⟨false, .tup [], [], 0, [(.o2 .lss (.f1 205 (.f1 98 goE)) (.int 0), true), (.f1 97 goE, true)]⟩,
  ⟨false, .tup [], [], 0, [(.o2 .eql (.o1 .lenB (.var 5)) (.int 16), false), (.f1 97 goE, true)]⟩,
  ⟨true, bE (.bool false), stH, 19, [(.f1 97 goE, false)]⟩,
  ⟨false, .tup [], [], 0, [(.o2 .lss (.int 0) (.int 0), true)]⟩,
  ⟨false, .tup [], [], 0, [(.o2 .lss (.int 0) (.int 0), true)]⟩,
  ⟨false, .tup [], [], 0, [(.o2 .eql (.o1 .lenB (.var 5)) (.int 16), false)]⟩]
theorem go_ok' (v : V) : (E.den SG v (.f1 97 goE)) = .bool (goS v).1 := by
  show gfst (goE.den SG v) = _
  rw [goE_den]; rfl
theorem go_at (v : V) : (E.den SG v (.f1 204 (.f1 98 goE))) = .int (goS v).2.1 := by
  show F1 204 (gsnd (goE.den SG v)) = _
  rw [goE_den]; rfl
theorem go_k (v : V) : (E.den SG v (.f1 205 (.f1 98 goE))) = .int (goS v).2.2 := by
  show F1 205 (gsnd (goE.den SG v)) = _
  rw [goE_den]; rfl
theorem go_rest (v : V) : (E.den SG v (.f2 201 (.var 5) (.f1 205 (.f1 98 goE)))) = .bool (restNo (v 5).toBools (16 - (goS v).2.2).toNat (goS v).2.2) := by
  show F2 201 (v 5) (E.den SG v (.f1 205 (.f1 98 goE))) = _
  rw [go_k]; rfl
def srdE : E := .f3 206 (.f2 60 (.var 2) (.var 4)) (.var 1) (.var 5)
theorem srdE_den (v : V) : srdE.den SG v = .bool ((goS v).1 && (restNo (v 5).toBools (16 - (goS v).2.2).toNat (goS v).2.2 && ((goS v).2.1 == 0))) := rfl
theorem st_rest (v : V) : restOK SG v stH [] [(2, .res 0 (.var 1)), (3, .row .bool (.var 5))] := rest_cons rfl rfl (eqv_rfl _ _) (rest_cons rfl rfl (eqv_rfl _ _) rest_nil)
theorem st_end {v : V} {c : CO} (hok : c.ok = true) (hH : c.H = stH) (h : ∀ n : Env U, n.v = v → c.ret.den SG n = (bE srdE).den SG n) : EndOK L NK v c (bE srdE) none [(2, .res 0 (.var 1)), (3, .row .bool (.var 5))] :=
  endOK_none hok h (by rw [hH]; exact st_rest v)
theorem bE_den (n : Env U) (e : E) : (bE e).den SG n = Value.bool (e.den SG n.v).toBool := rfl
theorem eql_den (v : V) (a b : E) : E.den SG v (.o2 .eql a b) = .bool ((a.den SG v).toInt == (b.den SG v).toInt) := rfl
theorem gSorted_ok : gSorted.t.ok SG prog 39 := by
  have h16 : ∀ v : V, Req gSorted v → ∀ pa : Path, PT SG v pa → ∀ i : Nat, pa[i]? = some (.o2 .eql (.o1 .lenB (.var 5)) (.int 16), false) → False := fun v hq pa hp i hi => by
    have h := ptM hp i hi
    exact hq _ (.head _) fun x hx => by rw [List.mem_singleton.1 hx]; exact h
  refine GSpec.ok at_Sorted gSorted (by kernel_rfl) ⟨stS, by as_aux_lemma => kernel_rfl,
    allC_cons (fun v hp hq => ?_) <| allC_cons (fun v hp hq => ?_) <| allC_cons (gNo fun n hp hq => ?_) <| allC_cons (gNo fun n hp hq => h16 _ hq _ hp 0 rfl) <| allC_cons (fun v hp hq => ?_) <|
    allC_cons (gNo fun n hp hq => ?_) <| allC_cons (gNo fun n hp hq => ?_) <| allC_cons (gNo fun n hp hq => h16 _ hq _ hp 0 rfl) <| allC_nil _⟩
  · have a1 := ptM hp 0 rfl
    have a2 := ptM hp 1 rfl
    rw [go_rest] at a1
    rw [go_ok'] at a2
    simp only [G.toBool_bool] at a1 a2
    refine ⟨_, .head _, (pt_nil _).2 trivial, st_end rfl rfl fun n hn => ?_⟩
    subst hn
    rw [bE_den, bE_den, srdE_den, eql_den, go_at, a1, a2]; rfl
  · have a1 := ptM hp 0 rfl
    rw [go_rest] at a1
    simp only [G.toBool_bool] at a1
    refine ⟨_, .head _, (pt_nil _).2 trivial, st_end rfl rfl fun n hn => ?_⟩
    subst hn
    rw [bE_den, bE_den, srdE_den, a1, Bool.false_and, Bool.and_false]; rfl
  · have a1 := ptM hp 0 rfl
    have a2 : decide ((E.den SG n.v (.f1 205 (.f1 98 goE))).toInt < 0) = true := a1
    rw [go_k] at a2
    have : 0 ≤ (goS n.v).2.2 := sort_kpos (gcfg (n.v 2)) (gmem (n.v 1)) (n.v 5).toBools 60 (linkNext (nodeV (gcfg (n.v 2)) (gmem (n.v 1)) (n.v 4).toInt 2)) 0 (Int.le_refl _)
    have a3 := of_decide_eq_true a2
    simp only [G.toInt_int] at a3
    omega
  · have a1 := ptM hp 0 rfl
    rw [go_ok'] at a1
    simp only [G.toBool_bool] at a1
    refine ⟨_, .head _, (pt_nil _).2 trivial, st_end rfl rfl fun n hn => ?_⟩
    subst hn
    rw [bE_den, bE_den, srdE_den, a1, Bool.false_and]; rfl
  · have h : decide ((0 : Int) < 0) = true := ptM hp 0 rfl
    cases h
  · have h : decide ((0 : Int) < 0) = true := ptM hp 0 rfl
    cases h
end Go.Fl
