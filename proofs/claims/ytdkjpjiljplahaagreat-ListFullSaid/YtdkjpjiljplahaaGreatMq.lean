/- An arena at rest: an object is made, alone; acts. In plain Lean. -/
import Derived.Test.YtdkjpjiljplahaaGreatMp
namespace Go.Fl
open Go Go.Sx
set_option linter.unusedVariables false
set_option linter.unusedSimpArgs false
set_option linter.unusedSectionVars false
section
variable {c : Cfg} {A A' : Ab} {m m' : Mem} {who : Int} (hc : CfgOK c) (wf : WF c A m)
include hc wf

theorem given_apart {k j u : Int} (g : Given c A A' k j u) {s : Int} {o : Ob} (ho : A.ob s = some o) :
    o.ad + o.room ≤ dat c + c.words * j + u ∨ dat c + c.words * j + u + roomOf k ≤ o.ad := by
  obtain ⟨i, k', u', e1, e2, e3, e4, e5⟩ := (wf.obs s o ho).at'
  have hk := wf.cks i e1 e2
  rw [e3] at hk
  obtain ⟨_, ⟨_, _, _, hu⟩, _⟩ := hk
  have g0 := g.u0; have g1 := g.u1
  by_cases hij : i = j
  · subst hij
    rcases g.op with ⟨_, h, _⟩ | ⟨h, _, _⟩
    · rw [h] at e3
      simp only [Option.some.injEq, Prod.mk.injEq] at e3
      left; omega
    · rw [h] at e3; cases e3
  · rcases Int.lt_or_lt_of_ne hij with h | h
    · have := hc.prod1 h; left; omega
    · have := hc.prod1 h; right; omega
theorem given_zero {k j u : Int} (g : Given c A A' k j u) {x : Int} (h0 : dat c + c.words * j + u ≤ x) (h1 : x < dat c + c.words * j + u + roomOf k) : m.val x = 0 := by
  have hk := wf.cks j g.j0 g.j1
  have g1 := g.u1
  rcases g.op with ⟨_, h, _⟩ | ⟨h, hu, _⟩
  · rw [h] at hk; exact hk.2.2 x h0 (by omega)
  · rw [h] at hk; exact hk.2 x (by omega) (by omega)

/-- somebody lives there from now on -/
theorem WF.make {s : Int} {o : Ob} (h0 : 0 ≤ s) (h1 : s < c.slots) (hs : A.ob s = none) (hn : s ∉ A.fs) (hcl : 0 ≤ classOf o.size) (hg0 : 1 ≤ o.gen) (hg1 : o.gen ≤ c.gens)
    (hz : ∀ (i : Nat) v, o.vs[i]? = some v → v = 0) (hzero : ∀ x, o.ad ≤ x → x < o.ad + o.room → m.val x = 0)
    (hat : ∃ i k u, 0 ≤ i ∧ i < c.chunks ∧ A.ck i = some (k, u) ∧ dat c + c.words * i ≤ o.ad ∧ o.ad + o.room ≤ dat c + c.words * i + u)
    (hap : ∀ s' o', A.ob s' = some o' → o'.ad + o'.room ≤ o.ad ∨ o.ad + o.room ≤ o'.ad)
    (hl : m'.len = m.len) {hd sw : Int} (hv : ∀ b, m'.val b = if b = o.ad then hd else if b = 6 + c.threads + 2 * s then sw else m.val b)
    (hhd : headSize hd = o.size ∧ headOwn hd = o.own) (hsw : slotState sw = 1 ∧ slotAddr sw = o.ad ∧ slotGen sw = o.gen) (hgb : o.gen ≤ A.gb) : WF c (A.set s (some o)) m' := by
  have ht := hc.t0; have hs0 := hc.s0; have hk0 := hc.k0; have hs1 := hc.s1
  have hd' : 6 + c.threads + 2 * c.slots + 3 * c.chunks = dat c := rfl
  obtain ⟨r1, r2, r3, r4⟩ := Ob.room_size hcl
  obtain ⟨j, kj, uj, j0, j1, jk, ja, jb⟩ := hat
  obtain ⟨p1, p2, p3⟩ := hc.prod j0 (Int.le_of_lt j1)
  have hne : ∀ b, b ≠ o.ad → b ≠ 6 + c.threads + 2 * s → m'.val b = m.val b := fun b h2 h3 => by rw [hv, if_neg h2, if_neg h3]
  have had : m'.val o.ad = hd := by rw [hv, if_pos rfl]
  have hsl : m'.val (6 + c.threads + 2 * s) = sw := by rw [hv, if_neg (by omega), if_pos rfl]
  refine ⟨by rw [hl]; exact wf.len, fun t htm => ?_, wf.nd, ?_, wf.ch.keep fun t htm => ?_, fun t h2 h3 h4 => ?_, fun t q hq => ?_, fun t t' q q' hq hq' hne' => ?_, fun i h2 h3 => ?_, fun k h2 h3 => ?_, fun t h2 h3 => ?_⟩
  · have h3 := wf.fs t htm
    have hts : t ≠ s := fun e => hn (by rw [← e]; exact htm)
    rw [hne _ (by omega) (by omega), A.set_ne _ hts]; exact h3
  · rw [hne _ (by omega) (by omega)]; exact wf.top
  · have h3 := wf.fs t htm
    exact hne _ (by omega) (by omega)
  · by_cases hts : t = s
    · subst hts; rw [A.set_self] at h4; cases h4
    · rw [A.set_ne _ hts] at h4
      rw [hne _ (by omega) (by omega)]; exact wf.dead t h2 h3 h4
  · by_cases hts : t = s
    · subst hts
      rw [A.set_self] at hq
      simp only [Option.some.injEq] at hq
      subst hq
      refine ⟨h0, h1, by rw [hsl]; exact hsw.1, by rw [hsl]; exact hsw.2.1, by rw [hsl]; exact hsw.2.2, hg0, hg1, by rw [had]; exact hhd.1, by rw [had]; exact hhd.2, hcl, fun i v hi => ?_, ⟨j, kj, uj, j0, j1, jk, ja, jb⟩⟩
      have hil : i < o.vs.length := by
        rcases Nat.lt_or_ge i o.vs.length with h | h
        · exact h
        · rw [List.getElem?_eq_none h] at hi; cases hi
      have hii : (i : Int) < o.size := by simp only [Ob.size]; omega
      rw [hne _ (by omega) (by omega), hzero _ (by omega) (by omega), hz i v hi]
      exact cell_zero
    · rw [A.set_ne _ hts] at hq
      have h5 := wf.obs t q hq
      have h6 := wf.obj_at hc hq
      have h7 := hap t q hq
      have h8 := h5.s0; have h9 := h5.s1
      obtain ⟨q1, q2, q3, q4⟩ := Ob.room_size h5.cl
      exact h5.keep (hne _ (by omega) (by omega)) (fun y hy hy' => hne _ (by omega) (by omega)) (fun i k u hk => ⟨u, Int.le_refl _, hk⟩)
  · by_cases hts : t = s
    · subst hts
      rw [A.set_self] at hq
      simp only [Option.some.injEq] at hq
      subst hq
      rw [A.set_ne _ (fun e => hne' e.symm)] at hq'
      have := hap t' q' hq'
      omega
    · rw [A.set_ne _ hts] at hq
      by_cases hts' : t' = s
      · subst hts'
        rw [A.set_self] at hq'
        simp only [Option.some.injEq] at hq'
        subst hq'
        exact hap t q hq
      · rw [A.set_ne _ hts'] at hq'
        exact wf.apart t t' q q' hq hq' hne'
  · obtain ⟨q1, q2, q3⟩ := hc.prod h2 (Int.le_of_lt h3)
    have hcc := wf.cks i h2 h3
    refine hcc.keep (hne _ (by omega) (by omega)) (fun y hy hy' => hne _ ?_ ?_)
    · have hu0 := used0 hcc
      intro e
      by_cases hij : i = j
      · subst hij
        rw [jk] at hy
        simp only [usedOf] at hy
        omega
      · have hj := wf.cks j j0 j1
        rw [jk] at hj
        obtain ⟨_, ⟨_, _, _, huj⟩, _⟩ := hj
        rcases Int.lt_or_lt_of_ne hij with h | h
        · have := hc.prod1 h; omega
        · have := hc.prod1 h; omega
    · have hu0 := used0 hcc
      omega
  · rw [hne _ (by omega) (by omega)]; exact wf.op k h2 h3
  · by_cases hts : t = s
    · subst hts
      rw [hsl, hsw.2.2]; exact hgb
    · rw [hne _ (by omega) (by omega)]; exact wf.gb t h2 h3

/-- what an object is when it is made -/
def obNew (c : Cfg) (j u size g : Int) (own : Bool) : Ob := ⟨dat c + c.words * j + u, own, g, List.replicate size.toNat 0⟩
theorem alloc_size {size : Int} (own : Bool) (h : classOf size < 0) : ∃ a' m', Ends (allocStep c who) (QW c) 0 (allocNew size own) m a' m' ∧ Mem.Eqv m m' ∧ Cs a'.out 5 0 0 := by
  refine ⟨_, _, Ends.one (a' := { allocNew size own with out := ⟨5, 0, 0, m.steps⟩ }) (m' := m) ?_ qw_refl, .refl _, rfl, rfl, rfl⟩
  simp only [allocStep, allocNew, if_true, h]
theorem alloc_full {size : Int} (own : Bool) (h : 0 ≤ classOf size) (hf : A.fs = []) : ∃ a' m', Ends (allocStep c who) (QW c) 0 (allocNew size own) m a' m' ∧ Mem.Eqv m m' ∧ Cs a'.out 7 0 0 := by
  have htop := wf.top
  rw [hf] at htop
  have h' : ¬ classOf size < 0 := by omega
  refine ⟨_, _, Ends.one (a' := ⟨size, own, 1, ⟨1, m.val 1, 0, -1, false⟩, 0, 0, none, 0, 0, none, ⟨7, 0, 0, (m.load who 1).steps⟩⟩) (m' := m.load who 1) ?_ (qw_load ..), Mem.eqv_load .., rfl, rfl, rfl⟩
  have : ltI (-1) 0 = true := by decide
  simp only [allocStep, allocNew, if_true, h', if_false, takeStep, htop, this, takeSlot, Bool.false_eq_true, hdI]
theorem alloc_run {size : Int} (own : Bool) (h : 0 ≤ classOf size) {s : Int} {r : List Int} (hf : A.fs = s :: r) :
    (∃ n a' m', n ≤ 100 ∧ Ends (allocStep c who) (QW c) n (allocNew size own) m a' m' ∧ WF c A m' ∧ Cs a'.out 6 0 0 ∧ (∀ i, 0 ≤ i → i < c.chunks → A.ck i ≠ none) ∧ ¬ Fits c A (classOf size)) ∨
    (∃ n a' m' g j u A', n ≤ 100 ∧ Ends (allocStep c who) (QW c) n (allocNew size own) m a' m' ∧ Given c { A with fs := r } A' (classOf size) j u ∧ (A.ck j = none → ¬ Fits c A (classOf size)) ∧ WF c (A'.set s (some (obNew c j u size g own))) m' ∧
      Cs a'.out 0 (s + g * 65536) 0 ∧ 1 ≤ g ∧ g ≤ c.gens) := by
  have ht := hc.t0; have hs0 := hc.s0; have hk0 := hc.k0; have hs1 := hc.s1; have hg1 := hc.g1
  have hdd : 6 + c.threads + 2 * c.slots + 3 * c.chunks = dat c := rfl
  have dl := hc.dat_lt
  obtain ⟨p1, p2, p3⟩ := hc.prod (i := c.chunks) (by omega) (Int.le_refl _)
  have h' : ¬ classOf size < 0 := by omega
  have hk3 : classOf size ≤ 3 := by rcases class_cases size with h | h <;> omega
  have hfs := wf.fs s (by rw [hf]; exact List.mem_cons_self ..)
  obtain ⟨⟨f0, f1⟩, f2, f3, f4⟩ := hfs
  have hsl := hc.slot f0 (Int.le_of_lt f1)
  have hsl' := hc.slot' f0 (Int.le_of_lt f1)
  have htop := wf.top
  have hnd := wf.nd
  have hch := wf.ch
  rw [hf] at htop hnd hch
  obtain ⟨hnd1, hnd2⟩ := List.nodup_cons.1 hnd
  -- the slot is taken
  have t1 : allocStep c who (allocNew size own) m = (⟨size, own, 0, ⟨1, m.val 1, 0, s, false⟩, 0, 0, none, 0, 0, none, ⟨0, 0, 0, 0⟩⟩, m.load who 1, false) := by
    have : ltI s 0 = false := decide_eq_false (by omega)
    simp only [allocStep, allocNew, if_true, h', if_false, takeStep, htop, hdI, this, Bool.false_eq_true]
  have k2 : ((m.load who 1).load who (6 + c.threads + 2 * s + 1)).okA 1 = true := by rw [Mem.okA_of (Mem.len_load ..), Mem.okA_of (Mem.len_load ..)]; exact wf.ok (by omega) (by omega)
  have k3 : ((m.load who 1).load who (6 + c.threads + 2 * s + 1)).val 1 = m.val 1 := by rw [Mem.val_load, Mem.val_load]
  generalize hnext : topSlot (m.val (6 + c.threads + 2 * s + 1)) = next
  have t2 : allocStep c who ⟨size, own, 0, ⟨1, m.val 1, 0, s, false⟩, 0, 0, none, 0, 0, none, ⟨0, 0, 0, 0⟩⟩ (m.load who 1) =
      (⟨size, own, 0, ⟨2, m.val 1, next, s, false⟩, 0, 0, none, 0, 0, none, ⟨0, 0, 0, 0⟩⟩, (m.load who 1).load who (6 + c.threads + 2 * s + 1), false) := by
    simp only [allocStep, if_true, h', if_false, takeStep, Int.reduceEq, hsl', Mem.val_load, hnext, Bool.false_eq_true]
  generalize hm3 : ((m.load who 1).load who (6 + c.threads + 2 * s + 1)).cas who 1 (m.val 1) (putTop next (i64 (topCount (m.val 1) + 1))) = m3
  have hcas : ((m.load who 1).load who (6 + c.threads + 2 * s + 1)).casOk 1 (m.val 1) = true := by rw [Mem.casOk_eq k2, k3]; exact beq_self_eq_true _
  have t3 : allocStep c who ⟨size, own, 0, ⟨2, m.val 1, next, s, false⟩, 0, 0, none, 0, 0, none, ⟨0, 0, 0, 0⟩⟩ ((m.load who 1).load who (6 + c.threads + 2 * s + 1)) =
      (⟨size, own, 1, ⟨0, m.val 1, next, s, true⟩, s, 0, none, 0, 0, none, ⟨0, 0, 0, 0⟩⟩, m3, false) := by
    simp only [allocStep, if_true, h', if_false, takeStep, Int.reduceEq, hcas, takeSlot, hm3]
  have v3 : ∀ b, m3.val b = if b = 1 then putTop next (i64 (topCount (m.val 1) + 1)) else m.val b := fun b => by rw [← hm3, Mem.val_cas k2 k3, Mem.val_load, Mem.val_load]
  have q3 : QW c ((m.load who 1).load who (6 + c.threads + 2 * s + 1)) m3 := by rw [← hm3]; exact qw_cas k2 (by omega) k3 ..
  have wf3 : WF c { A with fs := r } m3 := wf.take hc hf (by rw [← hm3, Mem.len_cas, Mem.len_load, Mem.len_load]) (n := i64 (topCount (m.val 1) + 1)) (fun b => by rw [v3, hnext])
  clear hm3
  -- its generation
  generalize hgen : slotGen (m.val (6 + c.threads + 2 * s)) = g at f3 f4
  have v3s : m3.val (6 + c.threads + 2 * s) = m.val (6 + c.threads + 2 * s) := by rw [v3, if_neg (by omega)]
  have t4 : allocStep c who ⟨size, own, 1, ⟨0, m.val 1, next, s, true⟩, s, 0, none, 0, 0, none, ⟨0, 0, 0, 0⟩⟩ m3 =
      (⟨size, own, 2, ⟨0, m.val 1, next, s, true⟩, s, g, some (placeNew (classOf size)), 0, 0, none, ⟨0, 0, 0, 0⟩⟩, m3.load who (6 + c.threads + 2 * s), false) := by
    simp only [allocStep, Int.reduceEq, if_false, if_true, hsl, v3s, hgen]
  have wf4 := wf3.eqv (Mem.eqv_load m3 who (6 + c.threads + 2 * s))
  have go4 : Go (allocStep c who) (QW c) 4 (allocNew size own) m _ _ := .step t1 (qw_load ..) (.step t2 (qw_load ..) (.step t3 q3 (.one t4 (qw_load ..))))
  have mp : ∀ {n p p' m1 m2}, Go (placeStep c who) (QW c) n p m1 p' m2 → Go (allocStep c who) (QW c) n ⟨size, own, 2, ⟨0, m.val 1, next, s, true⟩, s, g, some p, 0, 0, none, ⟨0, 0, 0, 0⟩⟩ m1
      ⟨size, own, 2, ⟨0, m.val 1, next, s, true⟩, s, g, some p', 0, 0, none, ⟨0, 0, 0, 0⟩⟩ m2 := fun hgo =>
    Go.map (g := allocStep c who) (fun x : Place => (⟨size, own, 2, ⟨0, m.val 1, next, s, true⟩, s, g, some x, 0, 0, none, ⟨0, 0, 0, 0⟩⟩ : Alloc)) (fun a m a' m' hh => by
      simp only [allocStep, Int.reduceEq, if_false, if_true, hh, Bool.false_eq_true]) hgo
  rcases place_run hc wf4 (who := who) h hk3 with ⟨n, p', m5, e1, ⟨x1, y1, z1, z2, z3⟩, e3, e4, e5, e6⟩ | ⟨n, p', m5, j, u, A5, e1, ⟨x1, y1, z1, z2, z3⟩, e3, e4, e5, e6, enf, e7, e8⟩
  · -- there is no room: the slot is given back
    have t5 : allocStep c who ⟨size, own, 2, ⟨0, m.val 1, next, s, true⟩, s, g, some x1, 0, 0, none, ⟨0, 0, 0, 0⟩⟩ y1 =
        (⟨size, own, 7, ⟨0, m.val 1, next, s, true⟩, s, g, some p', spotAddr p', spotChunk p', some (giveNew s), ⟨6, 0, 0, m5.steps⟩⟩, m5, false) := by
      simp only [allocStep, Int.reduceEq, if_false, if_true, z2, e3, Bool.false_eq_true]
    have wf5 := wf4.eqv e4
    have hg5 : slotGen (m5.val (6 + c.threads + 2 * s)) = g := by rw [e4.2, Mem.val_load, v3s]; exact hgen
    obtain ⟨g', m7, ⟨x2, y2, w1, w2, w3⟩, e9⟩ := give_run hc wf5 (who := who) f0 f1 f2 hnd1 (by rw [hg5]; exact f3) (by rw [hg5]; exact f4)
    have w1' := Go.map (g := allocStep c who) (fun x : Give => (⟨size, own, 7, ⟨0, m.val 1, next, s, true⟩, s, g, some p', spotAddr p', spotChunk p', some x, ⟨6, 0, 0, m5.steps⟩⟩ : Alloc)) (fun a m a' m' hh => by
      simp only [allocStep, Int.reduceEq, if_false, hh]) w1
    have fin : Ends (allocStep c who) (QW c) _ (allocNew size own) m _ m7 := (((go4.trans (mp z1)).trans (.one t5 z3)).trans w1').ends (Ends.one (by simp only [allocStep, Int.reduceEq, if_false, w2]; rfl) w3)
    refine .inl ⟨_, _, m7, ?_, fin, ?_, ⟨rfl, rfl, rfl⟩, e5, e6⟩
    · omega
    · have : ({ A with fs := s :: r } : Ab) = A := by cases A; simp only at hf; subst hf; rfl
      rw [← this]; exact e9
  · -- words were given out
    have eg := e6
    have hA5 : ∀ t, A5.ob t = A.ob t := fun t => by rw [e6.ob]
    have g0 := e6.u0; have g1 := e6.u1; have gj0 := e6.j0; have gj1 := e6.j1
    obtain ⟨pj1, pj2, pj3⟩ := hc.prod gj0 (Int.le_of_lt gj1)
    have pj4 := hc.prod1 gj1
    obtain ⟨rm1, rm2⟩ := room_le h hk3
    have eck := hc.chunk' gj0 (Int.le_of_lt gj1)
    generalize hAD : dat c + c.words * j + u = ad at *
    have t5 : allocStep c who ⟨size, own, 2, ⟨0, m.val 1, next, s, true⟩, s, g, some x1, 0, 0, none, ⟨0, 0, 0, 0⟩⟩ y1 =
        (⟨size, own, 3, ⟨0, m.val 1, next, s, true⟩, s, g, some p', ad, j, none, ⟨0, 0, 0, 0⟩⟩, m5, false) := by
      simp only [allocStep, Int.reduceEq, if_false, if_true, z2, e3, spotAddr, spotChunk, e4, e5]
    have k5 : m5.okA (6 + c.threads + 2 * c.slots + 3 * j + 1) = true := e7.ok (by omega) (by omega)
    have wf6 : WF c A5 (m5.add who (6 + c.threads + 2 * c.slots + 3 * j + 1) (roomOf (classOf size))) := e7.put hc (Mem.len_add ..) (fun b hb => by rw [Mem.val_add k5, if_neg hb]) (.inr (.inr ⟨j, gj0, gj1, .inl rfl⟩))
    have v6 : ∀ b, b ≠ 6 + c.threads + 2 * c.slots + 3 * j + 1 → (m5.add who (6 + c.threads + 2 * c.slots + 3 * j + 1) (roomOf (classOf size))).val b = m5.val b := fun b hb => by rw [Mem.val_add k5, if_neg hb]
    have q6 : QW c m5 (m5.add who (6 + c.threads + 2 * c.slots + 3 * j + 1) (roomOf (classOf size))) := qw_add k5 (by omega) ..
    have t6 : allocStep c who ⟨size, own, 3, ⟨0, m.val 1, next, s, true⟩, s, g, some p', ad, j, none, ⟨0, 0, 0, 0⟩⟩ m5 =
        (⟨size, own, 4, ⟨0, m.val 1, next, s, true⟩, s, g, some p', ad, j, none, ⟨0, 0, 0, 0⟩⟩, m5.add who (6 + c.threads + 2 * c.slots + 3 * j + 1) (roomOf (classOf size)), false) := by
      simp only [allocStep, Int.reduceEq, if_false, if_true, eck]
    generalize m5.add who (6 + c.threads + 2 * c.slots + 3 * j + 1) (roomOf (classOf size)) = m6 at *
    have k6 : m6.okA ad = true := wf6.ok (by omega) (by omega)
    have l6 := wf6.len
    have t7 : allocStep c who ⟨size, own, 4, ⟨0, m.val 1, next, s, true⟩, s, g, some p', ad, j, none, ⟨0, 0, 0, 0⟩⟩ m6 =
        (⟨size, own, 5, ⟨0, m.val 1, next, s, true⟩, s, g, some p', ad, j, none, ⟨0, 0, 0, 0⟩⟩, m6.store who ad (putHead 1 size s g own), false) := by
      simp only [allocStep, Int.reduceEq, if_false, if_true, allocHead]
    have q7 : QW c m6 (m6.store who ad (putHead 1 size s g own)) := qw_store k6 (by omega) ..
    have v7 : ∀ b, (m6.store who ad (putHead 1 size s g own)).val b = if b = ad then putHead 1 size s g own else m6.val b := fun b => Mem.val_store k6 ..
    have l7 : (m6.store who ad (putHead 1 size s g own)).len = m6.len := Mem.len_store ..
    generalize m6.store who ad (putHead 1 size s g own) = m7 at *
    have k7 : m7.okA (6 + c.threads + 2 * s) = true := by rw [Mem.okA_iff, l7, l6]; omega
    have t8 : allocStep c who ⟨size, own, 5, ⟨0, m.val 1, next, s, true⟩, s, g, some p', ad, j, none, ⟨0, 0, 0, 0⟩⟩ m7 =
        (⟨size, own, 6, ⟨0, m.val 1, next, s, true⟩, s, g, some p', ad, j, none, ⟨0, putHandle s g, 0, (m7.store who (6 + c.threads + 2 * s) (putSlot 1 ad g 0)).steps⟩⟩, m7.store who (6 + c.threads + 2 * s) (putSlot 1 ad g 0), false) := by
      simp only [allocStep, Int.reduceEq, if_false, if_true, hsl]
    have q8 : QW c m7 (m7.store who (6 + c.threads + 2 * s) (putSlot 1 ad g 0)) := qw_store k7 (by omega) ..
    have v8 : ∀ b, (m7.store who (6 + c.threads + 2 * s) (putSlot 1 ad g 0)).val b = if b = 6 + c.threads + 2 * s then putSlot 1 ad g 0 else m7.val b := fun b => Mem.val_store k7 ..
    have l8 : (m7.store who (6 + c.threads + 2 * s) (putSlot 1 ad g 0)).len = m7.len := Mem.len_store ..
    generalize m7.store who (6 + c.threads + 2 * s) (putSlot 1 ad g 0) = m8 at *
    have k8 : m8.okA ad = true := by rw [Mem.okA_iff, l8, l7, l6]; omega
    have q9 : QW c m8 (m8.store who ad (putHead 2 size s g own)) := qw_store k8 (by omega) ..
    have v9 : ∀ b, (m8.store who ad (putHead 2 size s g own)).val b = if b = ad then putHead 2 size s g own else m8.val b := fun b => Mem.val_store k8 ..
    have l9 : (m8.store who ad (putHead 2 size s g own)).len = m6.len := by rw [Mem.len_store, l8, l7]
    have fin : Ends (allocStep c who) (QW c) _ (allocNew size own) m _ (m8.store who ad (putHead 2 size s g own)) :=
      (((((go4.trans (mp z1)).trans (.one t5 z3)).trans (.one t6 q6)).trans (.one t7 q7)).trans (.one t8 q8)).ends (Ends.one (by simp only [allocStep, Int.reduceEq, if_false, if_true, allocHead]; rfl) q9)
    have hcc := class_cases size
    have hsz : (obNew c j u size g own).size = size := by simp only [obNew, Ob.size, List.length_replicate]; omega
    have hrm : (obNew c j u size g own).room = roomOf (classOf size) := by simp only [Ob.room, hsz]
    have had : (obNew c j u size g own).ad = ad := hAD
    refine .inr ⟨_, _, _, g, j, u, A5, ?_, fin, e6, enf, ?_, ⟨rfl, ?_, rfl⟩, f3, f4⟩
    · omega
    · refine wf6.make hc (s := s) (o := obNew c j u size g own) f0 f1 (by rw [hA5]; exact f2) (by rw [e6.fs]; exact hnd1) (by rw [hsz]; exact h) f3 f4 (fun i v hi => ?_) (fun x hx hx' => ?_) ⟨j, classOf size, u + roomOf (classOf size), gj0, gj1, ?_, ?_, ?_⟩
        (fun s' o' ho' => ?_) l9 (hd := putHead 2 size s g own) (sw := putSlot 1 ad g 0) (fun b => ?_) ?_ ?_ ?_
      · simp only [obNew, List.getElem?_replicate] at hi
        split at hi
        · simp only [Option.some.injEq] at hi; exact hi.symm
        · cases hi
      · rw [had] at hx hx'; rw [hrm] at hx'
        rw [v6 x (by omega), e8 x (by omega)]
        exact given_zero hc wf4 eg (by rw [hAD]; omega) (by rw [hAD]; omega)
      · rw [e6.ck]; exact setF_self ..
      · rw [had]; omega
      · rw [had, hrm]; omega
      · rw [hA5] at ho'
        have := given_apart hc wf4 eg ho'
        rw [hAD] at this
        rw [had, hrm]; omega
      · rw [had, v9, v8, v7]
        by_cases h1 : b = ad
        · rw [if_pos h1, if_pos h1]
        · rw [if_neg h1, if_neg h1, if_neg h1]
      · obtain ⟨a1, a2⟩ := head_of 2 size s g own
        rw [hsz]
        exact ⟨by rw [a1, fit_in (by omega) (by omega) (by decide)], a2⟩
      · obtain ⟨a1, a2, a3⟩ := slot_of 1 ad g 0
        rw [had]
        exact ⟨by rw [a1]; decide, by rw [a2, fit_in (by omega) (by omega) (by decide)], by rw [a3, fit_in (by omega) (by omega) (by decide)]; rfl⟩
      · have := wf.gb s f0 f1
        rw [hgen] at this
        rw [e6.gb]; exact this
    · exact putHandle_val f0 (by omega) (by omega) (by omega)
end
end Go.Fl

/- An arena at rest: acts, alone. In plain Lean. -/
namespace Go.Fl
open Go Go.Sx
set_option linter.unusedVariables false
set_option linter.unusedSimpArgs false
set_option linter.unusedSectionVars false

/-- what a step of an act keeps: it touches one word at most; where that is a chunk's, the epoch is pinned -/
def QA (c : Cfg) (who : Int) (m m' : Mem) : Prop := m'.steps = m.steps ∨ (m'.steps = i64 (m.steps + 1) ∧ (ofAt c m'.la < 0 ∨ m'.val (6 + who) ≠ 0))
/-- an arena at rest, for somebody -/
structure RS (c : Cfg) (A : Ab) (who : Int) (m : Mem) : Prop where
  wf : WF c A m
  ep : u64 (m.val 0 + 1) ≠ 0
  pin : m.val (6 + who) = 0

section
variable {c : Cfg} {A A' : Ab} {m m' : Mem} {who : Int} (hc : CfgOK c) (hw0 : 0 ≤ who) (hw1 : who < c.threads)
theorem Mem.la_load {m : Mem} {a : Int} (h : m.okA a = true) (who : Int) : (m.load who a).la = a := by unfold Mem.load; rw [Mem.okA_by, if_pos h]; rfl
theorem Mem.la_store {m : Mem} {a : Int} (h : m.okA a = true) (who x : Int) : (m.store who a x).la = a := by unfold Mem.store; rw [Mem.okA_by, if_pos h, Mem.la_set]; rfl
include hc in
theorem of_low {a : Int} (h : a < dat c) : ofAt c a < 0 := by
  have hb := hc.base (i := 0) (Int.le_refl _) (by have := hc.k0; omega)
  rw [Int.mul_zero, Int.add_zero] at hb
  simp only [ofAt, hb]
  rw [if_pos h]; omega
include hc in
theorem qa_load {a : Int} (h : m.okA a = true) (ha : a < dat c) : QA c who m (m.load who a) := by
  rcases Mem.tick_load m who a with h1 | h1
  · exact .inl h1
  · exact .inr ⟨h1, .inl (by rw [Mem.la_load h]; exact of_low hc ha)⟩
include hc in
theorem qa_store {a : Int} (h : m.okA a = true) (ha : a < dat c) (x : Int) : QA c who m (m.store who a x) := by
  rcases Mem.tick_store m who a x with h1 | h1
  · exact .inl h1
  · exact .inr ⟨h1, .inl (by rw [Mem.la_store h]; exact of_low hc ha)⟩
include hc hw0 hw1
theorem act_run {X : ActX} (rs : RS c A who m) (P : Done → Ab → Prop)
    (hwork : ∀ m1, WF c A m1 → ∃ n x' m2 A', n ≤ 100 ∧ Ends (workStep c who) (QW c) n (actWork X) m1 x' m2 ∧ WF c A' m2 ∧ P x'.out A') :
    ∃ n a' m' A', n ≤ 110 ∧ Ends (actStep c who) (QA c who) n (actNew X) m a' m' ∧ RS c A' who m' ∧ P a'.out A' := by
  obtain ⟨wf, hep, hpin⟩ := rs
  have ht := hc.t0; have hs0 := hc.s0; have hk0 := hc.k0
  have hd : 6 + c.threads + 2 * c.slots + 3 * c.chunks = dat c := rfl
  obtain ⟨p1, p2, p3⟩ := hc.prod (i := c.chunks) (by omega) (Int.le_refl _)
  have ep : pinAt who = 6 + who := hc.pin hw0 hw1
  have k1 : m.okA 0 = true := wf.ok (Int.le_refl _) (by omega)
  generalize hX : actWork X = W
  have s1 : actStep c who (actNew X) m = (⟨⟨1, m.val 0⟩, 0, W, ⟨0, 0, 0, 0⟩⟩, m.load who 0, false) := by
    simp only [actStep, actNew, if_true, inStep, hX, Bool.false_eq_true, if_false]
  have wf1 := wf.eqv (Mem.eqv_load m who 0)
  have q1 : QA c who m (m.load who 0) := qa_load hc k1 (by omega)
  have v1 : ∀ b, (m.load who 0).val b = m.val b := fun b => Mem.val_load ..
  generalize m.load who 0 = m1 at *
  have k2 : m1.okA (6 + who) = true := wf1.ok (by omega) (by omega)
  have s2 : actStep c who ⟨⟨1, m.val 0⟩, 0, W, ⟨0, 0, 0, 0⟩⟩ m1 = (⟨⟨2, m.val 0⟩, 0, W, ⟨0, 0, 0, 0⟩⟩, m1.store who (6 + who) (u64 (m.val 0 + 1)), false) := by
    simp only [actStep, if_true, inStep, Int.reduceEq, if_false, ep, Bool.false_eq_true]
  have v2 : ∀ b, (m1.store who (6 + who) (u64 (m.val 0 + 1))).val b = if b = 6 + who then u64 (m.val 0 + 1) else m.val b := fun b => by rw [Mem.val_store k2, v1]
  have wf2 : WF c A (m1.store who (6 + who) (u64 (m.val 0 + 1))) := wf1.put hc (Mem.len_store ..) (fun b hb => by rw [Mem.val_store k2, if_neg hb]) (.inr (.inl ⟨by omega, by omega⟩))
  have q2 : QA c who m1 (m1.store who (6 + who) (u64 (m.val 0 + 1))) := qa_store hc k2 (by omega) _
  generalize m1.store who (6 + who) (u64 (m.val 0 + 1)) = m2 at *
  have k3 : m2.okA 0 = true := wf2.ok (Int.le_refl _) (by omega)
  have v20 : m2.val 0 = m.val 0 := by rw [v2, if_neg (by omega)]
  have s3 : actStep c who ⟨⟨2, m.val 0⟩, 0, W, ⟨0, 0, 0, 0⟩⟩ m2 = (⟨⟨2, m.val 0⟩, 1, W, ⟨0, 0, 0, 0⟩⟩, m2.load who 0, false) := by
    simp only [actStep, if_true, inStep, Int.reduceEq, if_false, v20]
  have wf3 := wf2.eqv (Mem.eqv_load m2 who 0)
  have q3 : QA c who m2 (m2.load who 0) := qa_load hc k3 (by omega)
  have v3 : ∀ b, (m2.load who 0).val b = m2.val b := fun b => Mem.val_load ..
  generalize m2.load who 0 = m3 at *
  obtain ⟨n, x', m4, A', hn, he, wf4, hP⟩ := hwork m3 wf3
  rw [hX] at he
  have hI := Ends.keep (I := fun m' => m'.val (6 + who) = u64 (m.val 0 + 1) ∧ m'.val 0 = m.val 0) (Q' := QA c who) (fun a b h hq => by
    obtain ⟨h1, h2⟩ := h
    obtain ⟨g1, g2⟩ := hq
    refine ⟨⟨by rw [g2 _ (.inr ⟨by omega, by omega⟩)]; exact h1, by rw [g2 0 (.inl rfl)]; exact h2⟩, ?_⟩
    rcases g1 with g1 | g1
    · exact .inl g1
    · exact .inr ⟨g1, .inr (by rw [g2 _ (.inr ⟨by omega, by omega⟩), h1]; exact hep)⟩) he ⟨by rw [v3, v2, if_pos rfl], by rw [v3, v20]⟩
  obtain ⟨⟨i1, i2⟩, x1, y1, z1, z2, z3⟩ := hI
  have z1' := Go.map (g := actStep c who) (fun x : Work => (⟨⟨2, m.val 0⟩, 1, x, ⟨0, 0, 0, 0⟩⟩ : Act)) (fun a m a' m' hh => by
    simp only [actStep, Int.reduceEq, if_false, if_true, hh, Bool.false_eq_true]) z1
  have s4 : actStep c who ⟨⟨2, m.val 0⟩, 1, x1, ⟨0, 0, 0, 0⟩⟩ y1 = (⟨⟨2, m.val 0⟩, 2, x', x'.out⟩, m4, false) := by
    simp only [actStep, Int.reduceEq, if_false, if_true, z2]
  have k5 : m4.okA (6 + who) = true := wf4.ok (by omega) (by omega)
  have s5 : actStep c who ⟨⟨2, m.val 0⟩, 2, x', x'.out⟩ m4 = (⟨⟨2, m.val 0⟩, 2, x', x'.out⟩, m4.store who (6 + who) 0, true) := by
    simp only [actStep, Int.reduceEq, if_false, ep]
  refine ⟨_, _, _, A', ?_, ((Go.step s1 q1 (.step s2 q2 (.one s3 q3))).trans (z1'.trans (.one s4 z3))).ends (Ends.one s5 (qa_store hc k5 (by omega) _)), ⟨?_, ?_, ?_⟩, hP⟩
  · omega
  · exact wf4.put hc (Mem.len_store ..) (fun b hb => by rw [Mem.val_store k5, if_neg hb]) (.inr (.inl ⟨by omega, by omega⟩))
  · rw [Mem.val_store k5, if_neg (by omega), i2]; exact hep
  · rw [Mem.val_store k5, if_pos rfl]
omit hc hw0 hw1

theorem work_access {Q : Mem → Mem → Prop} {n : Nat} {a a' : Access} (h : Ends (accessStep c who) Q n a m a' m') : Ends (workStep c who) Q n (.access a) m (.access a') m' := by
  obtain ⟨x, y, h1, h2, h3⟩ := h
  exact ⟨_, y, Go.map (g := workStep c who) Work.access (fun a m a' m' hh => by simp only [workStep, hh]) h1, by simp only [workStep, h2], h3⟩
theorem work_drop {Q : Mem → Mem → Prop} {n : Nat} {a a' : Drop} (h : Ends (dropStep c who) Q n a m a' m') : Ends (workStep c who) Q n (.drop a) m (.drop a') m' := by
  obtain ⟨x, y, h1, h2, h3⟩ := h
  exact ⟨_, y, Go.map (g := workStep c who) Work.drop (fun a m a' m' hh => by simp only [workStep, hh]) h1, by simp only [workStep, h2], h3⟩
theorem work_alloc {Q : Mem → Mem → Prop} {n : Nat} {a a' : Alloc} (h : Ends (allocStep c who) Q n a m a' m') : Ends (workStep c who) Q n (.alloc a) m (.alloc a') m' := by
  obtain ⟨x, y, h1, h2, h3⟩ := h
  exact ⟨_, y, Go.map (g := workStep c who) Work.alloc (fun a m a' m' hh => by simp only [workStep, hh]) h1, by simp only [workStep, h2], h3⟩

/-- an act, alone: what it came to, and what is behind -/
def Did (c : Cfg) (who : Int) (A : Ab) (X : ActX) (P : Done → Ab → Prop) : Prop :=
  ∀ m, RS c A who m → ∃ n a' m' A', n ≤ 110 ∧ Ends (actStep c who) (QA c who) n (actNew X) m a' m' ∧ RS c A' who m' ∧ P a'.out A'
theorem Did.mono {X : ActX} {P P' : Done → Ab → Prop} (h : Did c who A X P) (hp : ∀ d A', P d A' → P' d A') : Did c who A X P' := fun m rs => by
  obtain ⟨n, a', m', A', h1, h2, h3, h4⟩ := h m rs
  exact ⟨n, a', m', A', h1, h2, h3, hp _ _ h4⟩
include hc hw0 hw1
theorem did_of {X : ActX} {P : Done → Ab → Prop} (hwork : ∀ m1, WF c A m1 → ∃ n x' m2 A', n ≤ 100 ∧ Ends (workStep c who) (QW c) n (actWork X) m1 x' m2 ∧ WF c A' m2 ∧ P x'.out A') : Did c who A X P :=
  fun m rs => act_run hc hw0 hw1 rs P hwork
theorem kind_read (z h i v old : Int) (own : Bool) : actWork ⟨3, z, h, i, v, old, own⟩ = .access (accessNew 1 h i v old own) := by
  have : i64 (i64 (3 - 3) + 1) = 1 := by decide
  simp only [actWork, Int.reduceEq, if_false, this]
theorem kind_write (z h i v old : Int) (own : Bool) : actWork ⟨4, z, h, i, v, old, own⟩ = .access (accessNew 2 h i v old own) := by
  have : i64 (i64 (4 - 3) + 1) = 2 := by decide
  simp only [actWork, Int.reduceEq, if_false, this]
theorem kind_cas (z h i v old : Int) (own : Bool) : actWork ⟨5, z, h, i, v, old, own⟩ = .access (accessNew 3 h i v old own) := by
  have : i64 (i64 (5 - 3) + 1) = 3 := by decide
  simp only [actWork, Int.reduceEq, if_false, this]
variable {h s i v old z x : Int} {own : Bool} {o : Ob} {k : Nat}
theorem did_read (ha : A.at' c h = some (s, o)) (hw : o.own = own) (hk : i = k) (hx : o.vs[k]? = some x) : Did c who A ⟨3, z, h, i, v, old, own⟩ fun d A' => Cs d 0 0 x ∧ A' = A := by
  refine did_of hc hw0 hw1 fun m1 wf => ?_
  obtain ⟨a', m', h1, h2, h3⟩ := acc_read hc wf (who := who) (kind := 1) (v := v) (old := old) ha hw hk hx (.inl rfl)
  exact ⟨3, .access a', m', A, by omega, by rw [kind_read hc hw0 hw1]; exact work_access h1, wf.eqv h2, by simpa [Work.out] using h3, rfl⟩
theorem did_write (ha : A.at' c h = some (s, o)) (hw : o.own = own) (hk : i = k) (hx : o.vs[k]? = some x) (hv : 0 ≤ v) (hv' : v ≤ 1099511627775) :
    Did c who A ⟨4, z, h, i, v, old, own⟩ fun d A' => Cs d 0 0 x ∧ A' = A.set s (some { o with vs := o.vs.set k v }) := by
  refine did_of hc hw0 hw1 fun m1 wf => ?_
  obtain ⟨a', m', h1, h2, h3⟩ := acc_write hc wf (who := who) (kind := 2) (v := v) (old := old) ha hw hk hx (by omega) hv hv'
  exact ⟨3, .access a', m', _, by omega, by rw [kind_write hc hw0 hw1]; exact work_access h1, h2, h3, rfl⟩
theorem did_cas (ha : A.at' c h = some (s, o)) (hw : o.own = own) (hk : i = k) (hx : o.vs[k]? = some old) (hv : 0 ≤ v) (hv' : v ≤ 1099511627775) :
    Did c who A ⟨5, z, h, i, v, old, own⟩ fun d A' => Cs d 0 0 old ∧ A' = A.set s (some { o with vs := o.vs.set k v }) := by
  refine did_of hc hw0 hw1 fun m1 wf => ?_
  obtain ⟨a', m', h1, h2, h3⟩ := acc_write hc wf (who := who) (kind := 3) (v := v) (old := old) ha hw hk hx (by simp) hv hv'
  exact ⟨3, .access a', m', _, by omega, by rw [kind_cas hc hw0 hw1]; exact work_access h1, h2, h3, rfl⟩
theorem did_cas_no (ha : A.at' c h = some (s, o)) (hw : o.own = own) (hk : i = k) (hx : o.vs[k]? = some x) (hne : x ≠ old) : Did c who A ⟨5, z, h, i, v, old, own⟩ fun d A' => Cs d 8 0 x ∧ A' = A := by
  refine did_of hc hw0 hw1 fun m1 wf => ?_
  obtain ⟨a', m', h1, h2, h3⟩ := acc_read hc wf (who := who) (kind := 3) (v := v) (old := old) ha hw hk hx (.inr ⟨rfl, hne⟩)
  exact ⟨3, .access a', m', A, by omega, by rw [kind_cas hc hw0 hw1]; exact work_access h1, wf.eqv h2, by simpa [Work.out] using h3, rfl⟩
/-- of nothing, or of what is another's -/
theorem did_bad (ha : ∀ s o, A.at' c h = some (s, o) → o.own ≠ own) {kd : Int} (hkd : kd = 2 ∨ kd = 3 ∨ kd = 4 ∨ kd = 5) : Did c who A ⟨kd, z, h, i, v, old, own⟩ fun d A' => Cs d 3 0 0 ∧ A' = A := by
  refine did_of hc hw0 hw1 fun m1 wf => ?_
  have acc : ∀ kk, ∃ n a' m', n ≤ 100 ∧ Ends (accessStep c who) (QW c) n (accessNew kk h i v old own) m1 a' m' ∧ Mem.Eqv m1 m' ∧ Cs a'.out 3 0 0 := fun kk => by
    cases hat : A.at' c h with
    | none => obtain ⟨a', m', h1, h2, h3⟩ := acc_none hc wf (who := who) (kind := kk) (i := i) (v := v) (old := old) (own := own) hat; exact ⟨0, a', m', by omega, h1, h2, h3⟩
    | some p =>
      obtain ⟨s, o⟩ := p
      obtain ⟨a', m', h1, h2, h3⟩ := acc_own hc wf (who := who) (kind := kk) (i := i) (v := v) (old := old) (own := own) hat (ha s o hat)
      exact ⟨1, a', m', by omega, h1, h2, h3⟩
  rcases hkd with rfl | rfl | rfl | rfl
  · have : actWork ⟨2, z, h, i, v, old, own⟩ = .drop (dropNew h own) := by simp only [actWork, Int.reduceEq, if_false, if_true]
    rw [this]
    cases hat : A.at' c h with
    | none => obtain ⟨a', m', h1, h2, h3⟩ := drop_none hc wf (who := who) (own := own) hat; exact ⟨0, .drop a', m', A, by omega, work_drop h1, wf.eqv h2, h3, rfl⟩
    | some p =>
      obtain ⟨s, o⟩ := p
      obtain ⟨a', m', h1, h2, h3⟩ := drop_own hc wf (who := who) (own := own) hat (ha s o hat)
      exact ⟨1, .drop a', m', A, by omega, work_drop h1, wf.eqv h2, h3, rfl⟩
  · obtain ⟨n, a', m', h0, h1, h2, h3⟩ := acc 1; exact ⟨n, .access a', m', A, h0, by rw [kind_read hc hw0 hw1]; exact work_access h1, wf.eqv h2, h3, rfl⟩
  · obtain ⟨n, a', m', h0, h1, h2, h3⟩ := acc 2; exact ⟨n, .access a', m', A, h0, by rw [kind_write hc hw0 hw1]; exact work_access h1, wf.eqv h2, h3, rfl⟩
  · obtain ⟨n, a', m', h0, h1, h2, h3⟩ := acc 3; exact ⟨n, .access a', m', A, h0, by rw [kind_cas hc hw0 hw1]; exact work_access h1, wf.eqv h2, h3, rfl⟩
/-- no such word of an object -/
theorem did_idx (ha : A.at' c h = some (s, o)) (hw : o.own = own) (hi : i < 0 ∨ ¬ i < o.size) {kd : Int} (hkd : kd = 3 ∨ kd = 4 ∨ kd = 5) : Did c who A ⟨kd, z, h, i, v, old, own⟩ fun d A' => Cs d 4 0 0 ∧ A' = A := by
  refine did_of hc hw0 hw1 fun m1 wf => ?_
  have acc : ∀ kk, ∃ n a' m', n ≤ 100 ∧ Ends (accessStep c who) (QW c) n (accessNew kk h i v old own) m1 a' m' ∧ Mem.Eqv m1 m' ∧ Cs a'.out 4 0 0 := fun kk => by
    obtain ⟨a', m', h1, h2, h3⟩ := acc_idx hc wf (who := who) (kind := kk) (v := v) (old := old) ha hw hi
    exact ⟨1, a', m', by omega, h1, h2, h3⟩
  rcases hkd with rfl | rfl | rfl
  · obtain ⟨n, a', m', h0, h1, h2, h3⟩ := acc 1; exact ⟨n, .access a', m', A, h0, by rw [kind_read hc hw0 hw1]; exact work_access h1, wf.eqv h2, h3, rfl⟩
  · obtain ⟨n, a', m', h0, h1, h2, h3⟩ := acc 2; exact ⟨n, .access a', m', A, h0, by rw [kind_write hc hw0 hw1]; exact work_access h1, wf.eqv h2, h3, rfl⟩
  · obtain ⟨n, a', m', h0, h1, h2, h3⟩ := acc 3; exact ⟨n, .access a', m', A, h0, by rw [kind_cas hc hw0 hw1]; exact work_access h1, wf.eqv h2, h3, rfl⟩
theorem did_free (ha : A.at' c h = some (s, o)) (hw : o.own = own) : Did c who A ⟨2, z, h, i, v, old, own⟩ fun d A' => Cs d 0 0 0 ∧ A' = A.drop c s o := by
  refine did_of hc hw0 hw1 fun m1 wf => ?_
  have : actWork ⟨2, z, h, i, v, old, own⟩ = .drop (dropNew h own) := by simp only [actWork, Int.reduceEq, if_false, if_true]
  rw [this]
  obtain ⟨n, a', m', h0, h1, h2, h3⟩ := drop_run hc wf (who := who) ha hw
  exact ⟨n, .drop a', m', _, by omega, work_drop h1, h2, h3, rfl⟩
/-- an object was made: who lives where, from now on -/
structure Made (c : Cfg) (A A' : Ab) (size : Int) (own : Bool) (s g : Int) (r : List Int) : Prop where
  fs : A.fs = s :: r
  fs' : A'.fs = r
  gb : A'.gb = A.gb
  g0 : 1 ≤ g
  g1 : g ≤ c.gens
  ob : ∃ ad, A'.ob = fun t => if t = s then some ⟨ad, own, g, List.replicate size.toNat 0⟩ else A.ob t
  /-- out of which chunk -/
  ck : ∃ j u, 0 ≤ j ∧ j < c.chunks ∧ 0 ≤ u ∧ u + roomOf (classOf size) ≤ c.words ∧ A'.ck = setF A.ck j (some (classOf size, u + roomOf (classOf size))) ∧
    ((A.op (classOf size) = j + 1 ∧ A.ck j = some (classOf size, u) ∧ A'.op = A.op) ∨ (A.ck j = none ∧ u = 0 ∧ A'.op = setF A.op (classOf size) (j + 1) ∧ ¬ Fits c A (classOf size)))
theorem did_alloc (z2 h2 v2 old2 : Int) {size : Int} : Did c who A ⟨1, size, h2, z2, v2, old2, own⟩ fun d A' =>
    (classOf size < 0 ∧ Cs d 5 0 0 ∧ A' = A) ∨ (0 ≤ classOf size ∧ A.fs = [] ∧ Cs d 7 0 0 ∧ A' = A) ∨
    (0 ≤ classOf size ∧ A.fs ≠ [] ∧ Cs d 6 0 0 ∧ A' = A ∧ (∀ i, 0 ≤ i → i < c.chunks → A.ck i ≠ none) ∧ ¬ Fits c A (classOf size)) ∨
    (0 ≤ classOf size ∧ ∃ s g r, Made c A A' size own s g r ∧ Cs d 0 (s + g * 65536) 0) := by
  refine did_of hc hw0 hw1 fun m1 wf => ?_
  have : actWork ⟨1, size, h2, z2, v2, old2, own⟩ = .alloc (allocNew size own) := by simp only [actWork, if_true]
  rw [this]
  by_cases hcl : classOf size < 0
  · obtain ⟨a', m', h1, h2, h3⟩ := alloc_size hc wf (who := who) own hcl
    exact ⟨0, .alloc a', m', A, by omega, work_alloc h1, wf.eqv h2, .inl ⟨hcl, h3, rfl⟩⟩
  · have hcl : 0 ≤ classOf size := by omega
    cases hf : A.fs with
    | nil =>
      obtain ⟨a', m', h1, h2, h3⟩ := alloc_full hc wf (who := who) own hcl hf
      exact ⟨0, .alloc a', m', A, by omega, work_alloc h1, wf.eqv h2, .inr (.inl ⟨hcl, rfl, h3, rfl⟩)⟩
    | cons s r =>
      rcases alloc_run hc wf (who := who) own hcl hf with ⟨n, a', m', h0, h1, h2, h3, h4, h5⟩ | ⟨n, a', m', g, j, u, A2, h0, h1, h2, hnf, h3, h4, h5, h6⟩
      · exact ⟨n, .alloc a', m', A, h0, work_alloc h1, h2, .inr (.inr (.inl ⟨hcl, by simp, h3, rfl, h4, h5⟩))⟩
      · refine ⟨n, .alloc a', m', A2.set s (some (obNew c j u size g own)), h0, work_alloc h1, h3, .inr (.inr (.inr ⟨hcl, s, g, r, ⟨hf, h2.fs, h2.gb, h5, h6, ⟨dat c + c.words * j + u, ?_⟩, j, u, h2.j0, h2.j1, h2.u0, h2.u1, h2.ck, ?_⟩, h4⟩))⟩
        show (fun t => if t = s then _ else A2.ob t) = _
        rw [h2.ob]; rfl
        rcases h2.op with ⟨q1, q2, q3⟩ | ⟨q1, q2, q3⟩
        · exact .inl ⟨q1, q2, q3⟩
        · exact .inr ⟨q1, q2, q3, hnf q1⟩
end
end Go.Fl

/- An arena at rest: its nodes; a list in it. In plain Lean. -/
namespace Go.Fl
open Go Go.Sx
set_option linter.unusedVariables false
set_option linter.unusedSimpArgs false
set_option linter.unusedSectionVars false

/-- a node: its key, its link -/
def nod (c : Cfg) (A : Ab) (h : Int) : Option (Int × Int) :=
  match A.at' c h with
  | some (_, o) => if o.own = true then (match o.vs with | [k, n] => some (k, n) | _ => none) else none
  | none => none
section
variable {c : Cfg} {A A' : Ab} {m m' : Mem} {who : Int}
theorem nod_some {h k n : Int} (e : nod c A h = some (k, n)) : ∃ s o, A.at' c h = some (s, o) ∧ o.own = true ∧ o.vs = [k, n] := by
  unfold nod at e
  split at e
  · rename_i s o hat
    split at e
    · rename_i hown
      split at e
      · rename_i k' n' hv
        simp only [Option.some.injEq, Prod.mk.injEq] at e
        obtain ⟨rfl, rfl⟩ := e
        exact ⟨s, o, hat, hown, hv⟩
      · cases e
    · cases e
  · cases e
theorem nod_of {h k n s : Int} {o : Ob} (h1 : A.at' c h = some (s, o)) (h2 : o.own = true) (h3 : o.vs = [k, n]) : nod c A h = some (k, n) := by
  simp only [nod, h1, h2, if_true, h3]
theorem handle_range {h : Int} (e : handleOk h = true) : 65536 ≤ h ∧ h < 4294967296 := by
  simp only [handleOk, shr_div 32 _ 4294967296 (by decide) (by decide), shr_div 16 _ 65536 (by decide) (by decide), Bool.and_eq_true, beq_iff_eq, Bool.not_eq_true', beq_eq_false_iff_ne, ne_eq] at e
  omega
theorem handle_eq {h : Int} (e : handleOk h = true) : h = handleSlot h + handleGen h * 65536 := by
  obtain ⟨h1, h2⟩ := handle_range e
  simp only [handleSlot, handleGen, e, if_true, band_low 16 (p := 65535) (by decide) (by decide), shr_div 16 _ 65536 (by decide) (by decide)]
  rw [i64_in' (by omega), i64_in' (by omega)]
  omega
theorem at_range {h s : Int} {o : Ob} (e : A.at' c h = some (s, o)) : 65536 ≤ h ∧ h < 4294967296 := handle_range (at_some e).1
theorem nod_range {h k n : Int} (e : nod c A h = some (k, n)) : 65536 ≤ h ∧ h < 4294967296 := by
  obtain ⟨s, o, h1, _⟩ := nod_some e
  exact at_range h1
theorem at_iff {h s : Int} {o : Ob} : A.at' c h = some (s, o) ↔ handleOk h = true ∧ handleSlot h = s ∧ s < c.slots ∧ A.ob s = some o ∧ o.gen = handleGen h := by
  constructor
  · intro e
    obtain ⟨h1, h2, h3, h4, h5, h6⟩ := at_some e
    exact ⟨h1, h2, h4, h5, h6⟩
  · rintro ⟨h1, rfl, h3, h4, h5⟩
    simp only [Ab.at', h1, h3, true_and, if_true, h4, h5]
theorem at_none_of {h : Int} (e : ∀ s o, A.at' c h ≠ some (s, o)) : A.at' c h = none := by
  cases hx : A.at' c h with
  | none => rfl
  | some p => exact absurd hx (e p.1 p.2)
/-- an object's words are other ones -/
theorem at_set {h s : Int} {o : Ob} (ha : A.at' c h = some (s, o)) (vs : List Int) (h' : Int) :
    (A.set s (some { o with vs := vs })).at' c h' = if h' = h then some (s, { o with vs := vs }) else A.at' c h' := by
  obtain ⟨h1, h2, h3, h4, h5⟩ := at_iff.1 ha
  by_cases he : h' = h
  · subst he
    rw [if_pos rfl, at_iff]
    exact ⟨h1, h2, h3, A.set_self s _, h5⟩
  · rw [if_neg he]
    by_cases hs : handleSlot h' = s
    · by_cases hok : handleOk h' = true
      · have hg : o.gen ≠ handleGen h' := fun hg => he (by rw [handle_eq hok, handle_eq h1, hs, h2, ← h5, hg])
        have e1 : (A.set s (some { o with vs := vs })).at' c h' = none := at_none_of fun s' o' e => by
          obtain ⟨q1, q2, q3, q4, q5⟩ := at_iff.1 e
          rw [← q2, hs, A.set_self] at q4
          simp only [Option.some.injEq] at q4
          subst q4; exact hg q5
        have e2 : A.at' c h' = none := at_none_of fun s' o' e => by
          obtain ⟨q1, q2, q3, q4, q5⟩ := at_iff.1 e
          rw [← q2, hs, h4] at q4
          simp only [Option.some.injEq] at q4
          subst q4; exact hg q5
        rw [e1, e2]
      · simp only [Ab.at', hok, Bool.false_eq_true, false_and, if_false]
    · simp only [Ab.at', A.set_ne _ hs]
theorem at_made {ad g s : Int} {own : Bool} {vs : List Int} (hs0 : 0 ≤ s) (hs1 : s < c.slots) (hs2 : c.slots ≤ 65536) (hg0 : 1 ≤ g) (hg1 : g ≤ 65535) (hn : A.ob s = none)
    (hob : A'.ob = fun t => if t = s then some ⟨ad, own, g, vs⟩ else A.ob t) (h' : Int) :
    A'.at' c h' = if h' = s + g * 65536 then some (s, ⟨ad, own, g, vs⟩) else A.at' c h' := by
  obtain ⟨r1, r2, r3⟩ := handle_of (s := s) (g := g) hs0 (by omega) hg0 hg1
  by_cases he : h' = s + g * 65536
  · subst he
    rw [if_pos rfl, at_iff]
    exact ⟨r1, r2, hs1, by rw [hob]; exact if_pos rfl, r3.symm⟩
  · rw [if_neg he]
    by_cases hs : handleSlot h' = s
    · by_cases hok : handleOk h' = true
      · have hg : g ≠ handleGen h' := fun hg => he (by rw [handle_eq hok, hs, hg])
        have e1 : A'.at' c h' = none := at_none_of fun s' o' e => by
          obtain ⟨q1, q2, q3, q4, q5⟩ := at_iff.1 e
          rw [← q2, hs, hob] at q4
          simp only [if_true, Option.some.injEq] at q4
          subst q4; exact hg q5
        have e2 : A.at' c h' = none := at_none_of fun s' o' e => by
          obtain ⟨q1, q2, q3, q4, q5⟩ := at_iff.1 e
          rw [← q2, hs, hn] at q4
          cases q4
        rw [e1, e2]
      · simp only [Ab.at', hok, Bool.false_eq_true, false_and, if_false]
    · have : A'.ob (handleSlot h') = A.ob (handleSlot h') := by rw [hob]; exact if_neg hs
      simp only [Ab.at', this]
theorem at_killed {h s : Int} {o : Ob} (ha : A.at' c h = some (s, o)) (hob : A'.ob = (A.set s none).ob) (h' : Int) : A'.at' c h' = if h' = h then none else A.at' c h' := by
  obtain ⟨h1, h2, h3, h4, h5⟩ := at_iff.1 ha
  have hno : handleSlot h' = s → A'.at' c h' = none := fun hs => at_none_of fun s' o' e => by
    obtain ⟨q1, q2, q3, q4, q5⟩ := at_iff.1 e
    rw [← q2, hs, hob, A.set_self] at q4
    cases q4
  by_cases he : h' = h
  · subst he
    rw [if_pos rfl, hno h2]
  · rw [if_neg he]
    by_cases hs : handleSlot h' = s
    · rw [hno hs]
      by_cases hok : handleOk h' = true
      · have hg : o.gen ≠ handleGen h' := fun hg => he (by rw [handle_eq hok, handle_eq h1, hs, h2, ← h5, hg])
        refine (at_none_of fun s' o' e => ?_).symm
        obtain ⟨q1, q2, q3, q4, q5⟩ := at_iff.1 e
        rw [← q2, hs, h4] at q4
        simp only [Option.some.injEq] at q4
        subst q4; exact hg q5
      · simp only [Ab.at', hok, Bool.false_eq_true, false_and, if_false]
    · have : A'.ob (handleSlot h') = A.ob (handleSlot h') := by rw [hob]; exact A.set_ne _ hs
      simp only [Ab.at', this]
theorem drop_ob (c : Cfg) (A : Ab) (s : Int) (o : Ob) : (A.drop c s o).ob = (A.set s none).ob := by unfold Ab.drop; split <;> rfl
theorem nod_set {h s k n : Int} {o : Ob} (ha : A.at' c h = some (s, o)) (hw : o.own = true) (h' : Int) :
    nod c (A.set s (some { o with vs := [k, n] })) h' = if h' = h then some (k, n) else nod c A h' := by
  unfold nod
  rw [at_set ha]
  by_cases he : h' = h
  · rw [if_pos he, if_pos he]; simp only [hw, if_true]
  · rw [if_neg he, if_neg he]
theorem nod_killed {h s : Int} {o : Ob} (ha : A.at' c h = some (s, o)) (hob : A'.ob = (A.set s none).ob) (h' : Int) : nod c A' h' = if h' = h then none else nod c A h' := by
  unfold nod
  rw [at_killed ha hob]
  by_cases he : h' = h
  · rw [if_pos he, if_pos he]
  · rw [if_neg he, if_neg he]

/-! ### a list -/
/-- from a link on, these nodes: handle, key -/
def Links (N : Int → Option (Int × Int)) : Int → List (Int × Int) → Prop
  | v, [] => v = 0
  | v, (h, k) :: r => v = h ∧ ∃ n, N h = some (k, n) ∧ Links N n r
theorem Links.keep {N N' : Int → Option (Int × Int)} : ∀ {l : List (Int × Int)} {v : Int}, (∀ p ∈ l, N' p.1 = N p.1) → Links N v l → Links N' v l
  | [], v, _, h => h
  | (h, k) :: r, v, hk, hl => by
    obtain ⟨rfl, n, h1, h2⟩ := hl
    exact ⟨rfl, n, by rw [hk _ (List.mem_cons_self ..)]; exact h1, Links.keep (fun p hp => hk p (List.mem_cons_of_mem _ hp)) h2⟩
structure LI (c : Cfg) (A : Ab) (head : Int) (ns : List (Int × Int)) : Prop where
  hd : ∃ k v, nod c A head = some (k, v) ∧ Links (nod c A) v ns
  nd : (head :: ns.map (·.1)).Nodup
  srt : ns.Pairwise (fun a b => a.2 < b.2)
/-- the link that leads to these -/
def hdH : List (Int × Int) → Int
  | [] => 0
  | (h, _) :: _ => h
theorem Links.hd {N : Int → Option (Int × Int)} {v : Int} {l : List (Int × Int)} (h : Links N v l) : v = hdH l := by
  cases l with
  | nil => exact h
  | cons p r => obtain ⟨a, b⟩ := p; exact h.1
/-- the handle of the node ahead -/
def lsH (p : Int) : List (Int × Int) → Int
  | [] => p
  | (h, _) :: r => lsH h r

/-! ### what a list does, act by act -/
/-- so many steps till what an act came to was heard -/
def RunTo (c : Cfg) (who : Int) (n : Nat) (l : Lst) (m : Mem) (r : Lst × Bool) (m' : Mem) : Prop :=
  if r.2 = true then Ends (listStep c who) (QA c who) n l m r.1 m' else Go (listStep c who) (QA c who) (n + 1) l m r.1 m'
theorem Go.runTo {n k : Nat} {l l1 : Lst} {m1 : Mem} {r : Lst × Bool} (h : Go (listStep c who) (QA c who) n l m l1 m1) (h2 : RunTo c who k l1 m1 r m') : RunTo c who (n + k) l m r m' := by
  unfold RunTo at *
  split
  · rename_i hr; rw [if_pos hr] at h2; exact h.ends h2
  · rename_i hr; rw [if_neg hr] at h2; exact h.trans h2
theorem RunTo.go {n : Nat} {l l1 : Lst} (h : RunTo c who n l m (l1, false) m') : Go (listStep c who) (QA c who) (n + 1) l m l1 m' := by
  unfold RunTo at h
  rw [if_neg (by simp)] at h
  exact h
theorem RunTo.ends {n : Nat} {l l1 : Lst} (h : RunTo c who n l m (l1, true) m') : Ends (listStep c who) (QA c who) n l m l1 m' := by
  unfold RunTo at h
  rw [if_pos rfl] at h
  exact h
theorem list_act {l : Lst} (hl : l.a = none) (hchk : actCheck (listWant l) = true) {n : Nat} {a' : Act} (h : Ends (actStep c who) (QA c who) n (actNew (listWant l)) m a' m') : RunTo c who n l m (listTold l a'.out) m' := by
  have el : ({ l with a := none } : Lst) = l := by cases l; simp only at hl; subst hl; rfl
  obtain ⟨a1, m1, h1, h2, h3⟩ := h
  have fin : ∀ (l1 : Lst), (l1 = l ∧ a1 = actNew (listWant l) ∨ l1 = { l with a := some a1 }) → listStep c who l1 m1 = ((listTold l a'.out).1, m', (listTold l a'.out).2) := by
    rintro l1 (⟨rfl, ha⟩ | rfl)
    · have h2' : actStep c who (actNew (listWant l1)) m1 = (a', m', true) := by rw [← ha]; exact h2
      simp only [listStep, hl, hchk, if_true, h2', el]
    · simp only [listStep, h2, if_true, el]
  have key : ∃ l1, Go (listStep c who) (QA c who) n l m l1 m1 ∧ (l1 = l ∧ a1 = actNew (listWant l) ∨ l1 = { l with a := some a1 }) := by
    cases h1 with
    | refl => exact ⟨l, .refl _ _, .inl ⟨rfl, rfl⟩⟩
    | step hs q r =>
      refine ⟨_, .step (a1 := { l with a := some _ }) ?_ q (Go.map (g := listStep c who) (fun x : Act => ({ l with a := some x } : Lst)) (fun a m a' m' hh => ?_) r), .inr rfl⟩
      · simp only [listStep, hl, hchk, if_true, hs, Bool.false_eq_true, if_false]
      · simp only [listStep, hh, Bool.false_eq_true, if_false]
  obtain ⟨l1, g1, g2⟩ := key
  have f1 := fin l1 g2
  unfold RunTo
  split
  · rename_i hr
    rw [hr] at f1
    exact ⟨l1, m1, g1, f1, h3⟩
  · rename_i hr
    simp only [Bool.not_eq_true] at hr
    rw [hr] at f1
    exact g1.trans (.one f1 h3)

/-- somebody who asks, no node made -/
def mkL (kd K hd pc p cu lk nd sn : Int) (out : Done) : Lst := ⟨kd, K, hd, pc, none, p, cu, lk, nd, sn, out⟩
variable {kd K hd p cu lk sn v : Int} {out d : Done}
theorem link_small {v : Int} (h0 : 0 ≤ v) (h1 : v < 4294967296) : linkNext v = v ∧ linkGone v = false := by
  refine ⟨by rw [linkNext_mod]; omega, ?_⟩
  rw [gone_val v h0 (by omega)]
  simp [h1]
theorem told_first (he : d.e = 0) (h0 : 0 ≤ d.value) (h1 : d.value < 4294967296) : listTold (mkL kd K hd 0 p cu lk 0 sn out) d =
    if d.value = 0 then listAbsent (mkL kd K hd 0 hd 0 lk 0 d.stamp out) else (mkL kd K hd 1 hd d.value lk 0 d.stamp out, false) := by
  obtain ⟨l1, _⟩ := link_small h0 h1
  simp only [listTold, listLooked, mkL, he, true_or, if_true, not_true, false_and, if_false, listAt, l1]
  by_cases hv : d.value = 0
  · simp only [hv, if_true]
  · simp only [hv, if_false]
theorem told_link (he : d.e = 0) (h0 : 0 ≤ d.value) (h1 : d.value < 4294967296) : listTold (mkL kd K hd 1 p cu lk 0 sn out) d = (mkL kd K hd 2 p cu d.value 0 sn { out with stamp := d.stamp }, false) := by
  obtain ⟨_, l2⟩ := link_small h0 h1
  simp only [listTold, listLooked, mkL, he, Int.reduceEq, true_or, or_true, false_or, if_true, not_true, false_and, and_false, if_false, l2, Bool.false_eq_true]
theorem told_lt (he : d.e = 0) (h : d.value < K) (h0 : 0 ≤ lk) (h1 : lk < 4294967296) : listTold (mkL kd K hd 2 p cu lk 0 sn out) d =
    if lk = 0 then listAbsent (mkL kd K hd 2 cu 0 lk 0 out.stamp out) else (mkL kd K hd 1 cu lk lk 0 out.stamp out, false) := by
  obtain ⟨l1, _⟩ := link_small h0 h1
  simp only [listTold, listLooked, mkL, he, Int.reduceEq, or_true, false_or, if_true, not_true, false_and, and_false, if_false, h, listAt, l1]
  by_cases hv : lk = 0
  · simp only [hv, if_true]
  · simp only [hv, if_false]
theorem told_eq (he : d.e = 0) (h : d.value = K) : listTold (mkL kd K hd 2 p cu lk 0 sn out) d = listPresent (mkL kd K hd 2 p cu lk 0 sn out) out.stamp := by
  simp only [listTold, listLooked, mkL, he, Int.reduceEq, or_true, false_or, if_true, not_true, false_and, and_false, if_false, h, Int.lt_irrefl]
theorem told_gt (he : d.e = 0) (h : K < d.value) : listTold (mkL kd K hd 2 p cu lk 0 sn out) d = listAbsent (mkL kd K hd 2 p cu lk 0 sn out) := by
  have h1 : ¬ d.value < K := by omega
  have h2 : ¬ d.value = K := by omega
  simp only [listTold, listLooked, mkL, he, Int.reduceEq, or_true, false_or, if_true, not_true, false_and, and_false, if_false, h1, h2]

variable (hc : CfgOK c) (hw0 : 0 ≤ who) (hw1 : who < c.threads)
theorem Links.range {v : Int} {l : List (Int × Int)} (h : Links (nod c A) v l) : 0 ≤ v ∧ v < 4294967296 := by
  cases l with
  | nil => simp only [Links] at h; omega
  | cons p r =>
    obtain ⟨a, b⟩ := p
    obtain ⟨rfl, n, h1, _⟩ := h
    have := nod_range h1
    omega
include hc hw0 hw1
/-- a node's key (0), its link (1) -/
theorem did_node {h k n : Int} (hN : nod c A h = some (k, n)) (i : Int) (hi : i = 0 ∨ i = 1) : Did c who A ⟨3, 0, h, i, 0, 0, true⟩ fun d A' => Cs d 0 0 (if i = 1 then n else k) ∧ A' = A := by
  obtain ⟨s, o, h1, h2, h3⟩ := nod_some hN
  rcases hi with rfl | rfl
  · exact did_read hc hw0 hw1 h1 h2 (k := 0) rfl (by rw [h3]; rfl)
  · exact did_read hc hw0 hw1 h1 h2 (k := 1) rfl (by rw [h3]; rfl)
/-- the way through the nodes -/
theorem trav : ∀ (ns : List (Int × Int)) (h k : Int) (r : List (Int × Int)) (p lk sn : Int) (out : Done) (m : Mem), ns = (h, k) :: r → RS c A who m → Links (nod c A) h ns → ns.Pairwise (fun a b => a.2 < b.2) →
    ∃ (n : Nat) (m1 : Mem) (pre post : List (Int × Int)) (lk' sn' pc' : Int) (out' : Done), n ≤ 300 * ns.length ∧ RS c A who m1 ∧ ns = pre ++ post ∧ (∀ q ∈ pre, q.2 < K) ∧
      ((∃ r', post = (hdH post, K) :: r' ∧ nod c A (hdH post) = some (K, lk') ∧ RunTo c who n (mkL kd K hd 1 p h lk 0 sn out) m (listPresent (mkL kd K hd 2 (lsH p pre) (hdH post) lk' 0 sn' out') out'.stamp) m1) ∨
       ((∀ q ∈ post, K < q.2) ∧ RunTo c who n (mkL kd K hd 1 p h lk 0 sn out) m (listAbsent (mkL kd K hd pc' (lsH p pre) (hdH post) lk' 0 sn' out')) m1)) := by
  intro ns
  induction ns with
  | nil => intro h k r p lk sn out m e; cases e
  | cons q0 r0 ih =>
    obtain ⟨h0, k0⟩ := q0
    intro h k r p lk sn out m e rs hl hs
    simp only [List.cons.injEq, Prod.mk.injEq] at e
    obtain ⟨⟨rfl, rfl⟩, rfl⟩ := e
    obtain ⟨_, n, hN, hr⟩ := hl
    obtain ⟨n0, n1⟩ := Links.range hr
    obtain ⟨hs1, hs2⟩ := List.pairwise_cons.1 hs
    -- its link
    obtain ⟨i1, a1, m1, A1, hi1, g1, rs1, ⟨c1, c2, c3⟩, rfl⟩ := did_node hc hw0 hw1 hN 1 (.inr rfl) m rs
    have w1 : listWant (mkL kd K hd 1 p h0 lk 0 sn out) = ⟨3, 0, h0, 1, 0, 0, true⟩ := by simp [listWant, mkL]
    have t1 := list_act (l := mkL kd K hd 1 p h0 lk 0 sn out) rfl (by rw [w1]; rfl) (by rw [w1]; exact g1)
    simp only [if_true] at c3
    rw [told_link c1 (by rw [c3]; exact n0) (by rw [c3]; exact n1), c3] at t1
    have t1' := t1.go
    -- its key
    obtain ⟨i2, a2, m2, A2, hi2, g2, rs2, ⟨d1, d2, d3⟩, rfl⟩ := did_node hc hw0 hw1 hN 0 (.inl rfl) m1 rs1
    generalize hout : ({ out with stamp := a1.out.stamp } : Done) = out1 at t1'
    have w2 : listWant (mkL kd K hd 2 p h0 n 0 sn out1) = ⟨3, 0, h0, 0, 0, 0, true⟩ := by simp [listWant, mkL]
    have t2 := list_act (l := mkL kd K hd 2 p h0 n 0 sn out1) rfl (by rw [w2]; rfl) (by rw [w2]; exact g2)
    have d3 : a2.out.value = k0 := by simpa using d3
    by_cases hlt : k0 < K
    · rw [told_lt d1 (by rw [d3]; exact hlt) n0 n1] at t2
      by_cases hn : n = 0
      · -- the last one
        rw [if_pos hn] at t2
        have hr0 : r0 = [] := by
          cases r0 with
          | nil => rfl
          | cons q r1 =>
            obtain ⟨a, b⟩ := q
            obtain ⟨rfl, _, hh, _⟩ := hr
            have := nod_range hh
            omega
        subst hr0
        refine ⟨_, m2, [(h0, k0)], [], n, out1.stamp, 2, out1, ?_, rs2, rfl, fun q hq => ?_, .inr ⟨fun q hq => (by cases hq), t1'.runTo t2⟩⟩
        · simp only [List.length_cons, List.length_nil]; omega
        · rw [List.mem_singleton.1 hq]; exact hlt
      · rw [if_neg hn] at t2
        have t2' := t2.go
        cases r0 with
        | nil => exact absurd hr hn
        | cons q r1 =>
          obtain ⟨h3, k3⟩ := q
          have hn3 : n = h3 := hr.1
          subst hn3
          obtain ⟨n3, m3, pre, post, lk', sn', pc', out', e1, e2, e3, e4, e5⟩ := ih n k3 r1 h0 n out1.stamp out1 m2 rfl rs2 hr hs2
          refine ⟨(i1 + 1) + (i2 + 1) + n3, m3, (h0, k0) :: pre, post, lk', sn', pc', out', ?_, e2, by rw [e3]; rfl, fun q hq => ?_, ?_⟩
          · simp only [List.length_cons] at e1 ⊢; omega
          · rcases List.mem_cons.1 hq with rfl | hq
            · exact hlt
            · exact e4 q hq
          · rcases e5 with ⟨r', f1, f2, f3⟩ | ⟨f1, f2⟩
            · exact .inl ⟨r', f1, f2, (t1'.trans t2').runTo f3⟩
            · exact .inr ⟨f1, (t1'.trans t2').runTo f2⟩
    · by_cases heq : k0 = K
      · rw [told_eq d1 (by rw [d3]; exact heq)] at t2
        refine ⟨_, m2, [], (h0, k0) :: r0, n, sn, 2, out1, ?_, rs2, rfl, fun q hq => (by cases hq), .inl ⟨r0, by rw [heq]; rfl, by rw [← heq]; exact hN, t1'.runTo t2⟩⟩
        simp only [List.length_cons]; omega
      · rw [told_gt d1 (by rw [d3]; omega)] at t2
        refine ⟨_, m2, [], (h0, k0) :: r0, n, sn, 2, out1, ?_, rs2, rfl, fun q hq => (by cases hq), .inr ⟨fun q hq => ?_, t1'.runTo t2⟩⟩
        · simp only [List.length_cons]; omega
        · rcases List.mem_cons.1 hq with rfl | hq
          · omega
          · have := hs1 q hq; simp only at this; omega
/-- .. from the beginning on -/
theorem trav0 {head : Int} {ns : List (Int × Int)} (li : LI c A head ns) (rs : RS c A who m) :
    ∃ (n : Nat) (m1 : Mem) (pre post : List (Int × Int)) (lk' sn' pc' : Int) (out' : Done), n ≤ 300 * ns.length + 200 ∧ RS c A who m1 ∧ ns = pre ++ post ∧ (∀ q ∈ pre, q.2 < K) ∧
      ((∃ r', post = (hdH post, K) :: r' ∧ nod c A (hdH post) = some (K, lk') ∧ RunTo c who n (listNew kd K head) m (listPresent (mkL kd K head 2 (lsH head pre) (hdH post) lk' 0 sn' out') out'.stamp) m1) ∨
       ((∀ q ∈ post, K < q.2) ∧ RunTo c who n (listNew kd K head) m (listAbsent (mkL kd K head pc' (lsH head pre) (hdH post) lk' 0 sn' out')) m1)) := by
  obtain ⟨k, v, hN, hr⟩ := li.hd
  obtain ⟨n0, n1⟩ := Links.range hr
  obtain ⟨i1, a1, m1, A1, hi1, g1, rs1, ⟨c1, c2, c3⟩, rfl⟩ := did_node hc hw0 hw1 hN 1 (.inr rfl) m rs
  have w1 : listWant (mkL kd K head 0 0 0 0 0 0 ⟨0, 0, 0, 0⟩) = ⟨3, 0, head, 1, 0, 0, true⟩ := by simp [listWant, mkL]
  have t1 := list_act (l := mkL kd K head 0 0 0 0 0 0 ⟨0, 0, 0, 0⟩) rfl (by rw [w1]; rfl) (by rw [w1]; exact g1)
  simp only [if_true] at c3
  rw [told_first c1 (by rw [c3]; exact n0) (by rw [c3]; exact n1), c3] at t1
  have e0 : listNew kd K head = mkL kd K head 0 0 0 0 0 0 ⟨0, 0, 0, 0⟩ := rfl
  rw [e0]
  cases ns with
  | nil =>
    have hv : v = 0 := hr
    rw [if_pos hv] at t1
    exact ⟨i1, m1, [], [], 0, a1.out.stamp, 0, ⟨0, 0, 0, 0⟩, by omega, rs1, rfl, fun q hq => (by cases hq), .inr ⟨fun q hq => (by cases hq), t1⟩⟩
  | cons q r =>
    obtain ⟨h, k1⟩ := q
    have hv : v = h := hr.1
    subst hv
    have hne : ¬ v = 0 := by
      obtain ⟨_, _, hh, _⟩ := hr
      have := nod_range hh
      omega
    rw [if_neg hne] at t1
    have t1' := t1.go
    obtain ⟨n3, m3, pre, post, lk', sn', pc', out', e1, e2, e3, e4, e5⟩ := trav hc hw0 hw1 (kd := kd) (K := K) (hd := head) ((v, k1) :: r) v k1 r head 0 a1.out.stamp ⟨0, 0, 0, 0⟩ m1 rfl rs1 hr li.srt
    refine ⟨(i1 + 1) + n3, m3, pre, post, lk', sn', pc', out', by omega, e2, e3, e4, ?_⟩
    rcases e5 with ⟨r', f1, f2, f3⟩ | ⟨f1, f2⟩
    · exact .inl ⟨r', f1, f2, t1'.runTo f3⟩
    · exact .inr ⟨f1, t1'.runTo f2⟩
end
end Go.Fl

/- An arena at rest: what is asked of a list, alone. In plain Lean. -/
namespace Go.Fl
open Go Go.Sx
set_option linter.unusedVariables false
set_option linter.unusedSimpArgs false
set_option linter.unusedSectionVars false

theorem lsH_mem : ∀ (pre : List (Int × Int)) (p : Int), lsH p pre ∈ p :: pre.map (·.1)
  | [], p => List.mem_cons_self ..
  | (h, k) :: r, p => by
    have := lsH_mem r h
    simp only [lsH, List.map_cons]
    exact List.mem_cons_of_mem _ this
theorem links_last {N : Int → Option (Int × Int)} {post : List (Int × Int)} : ∀ {pre : List (Int × Int)} {v p0 kp0 : Int}, N p0 = some (kp0, v) → Links N v (pre ++ post) → ∃ k, N (lsH p0 pre) = some (k, hdH post)
  | [], v, p0, kp0, h, hl => ⟨kp0, by
    have e := Links.hd hl
    simp only [List.nil_append] at e
    rw [← e]; exact h⟩
  | (h0, k0) :: r, v, p0, kp0, h, hl => by
    obtain ⟨_, n, h1, h2⟩ := hl
    exact links_last (pre := r) h1 h2
/-- behind these nodes it goes on elsewhere -/
theorem links_redirect {N N' : Int → Option (Int × Int)} {tail tail' : List (Int × Int)} {w : Int} (hw : Links N' w tail') : ∀ {pre : List (Int × Int)} {v p0 kp0 : Int}, N p0 = some (kp0, v) → Links N v (pre ++ tail) →
    (p0 :: pre.map (·.1)).Nodup → (∀ h ∈ p0 :: pre.map (·.1), N' h = if h = lsH p0 pre then (N h).map (fun x => (x.1, w)) else N h) → ∃ v', N' p0 = some (kp0, v') ∧ Links N' v' (pre ++ tail')
  | [], v, p0, kp0, h, hl, hnd, hN => ⟨w, by rw [hN p0 (List.mem_cons_self ..), show lsH p0 [] = p0 from rfl, if_pos rfl, h]; rfl, hw⟩
  | (h0, k0) :: r, v, p0, kp0, h, hl, hnd, hN => by
    obtain ⟨rfl, n, h1, h2⟩ := hl
    simp only [List.map_cons] at hnd hN
    obtain ⟨n1, n2⟩ := List.nodup_cons.1 hnd
    obtain ⟨v', g1, g2⟩ := links_redirect hw (pre := r) h1 h2 n2 (fun x hx => hN x (List.mem_cons_of_mem _ hx))
    refine ⟨v, ?_, rfl, v', g1, g2⟩
    rw [hN p0 (List.mem_cons_self ..), if_neg, h]
    intro e
    apply n1
    have := lsH_mem r v
    simp only [lsH] at e
    rw [e]; exact this
theorem links_tail {N : Int → Option (Int × Int)} {post : List (Int × Int)} : ∀ {pre : List (Int × Int)} {v : Int}, Links N v (pre ++ post) → Links N (hdH post) post
  | [], v, h => by
    have e := Links.hd h
    simp only [List.nil_append] at h e
    rw [← e]; exact h
  | (h0, k0) :: r, v, hl => by
    obtain ⟨_, n, h1, h2⟩ := hl
    exact links_tail (pre := r) h2

section
variable {c : Cfg} {A A' : Ab} {m m' : Mem} {who : Int} (hc : CfgOK c) (hw0 : 0 ≤ who) (hw1 : who < c.threads)
theorem runLst_of_ends {Q : Mem → Mem → Prop} {n k : Nat} {l l' : Lst} (h : Ends (listStep c who) Q n l m l' m') (hk : n < k) : runLst c who k l m = (l', m') := by
  obtain ⟨a1, m1, h1, h2, h3⟩ := h
  clear h3
  induction h1 generalizing k with
  | refl a m0 =>
    obtain ⟨k, rfl⟩ : ∃ j, k = j + 1 := ⟨k - 1, by omega⟩
    simp only [runLst, h2, if_true]
  | step hs q r ih =>
    obtain ⟨k, rfl⟩ : ∃ j, k = j + 1 := ⟨k - 1, by omega⟩
    simp only [runLst, hs, Bool.false_eq_true, if_false]
    exact ih (k := k) (by omega) h2
theorem ask_of_ends {n : Nat} {head kind key : Int} {l' : Lst} (hk : listCheck kind key = true) (h : Ends (listStep c who) (QA c who) n (listNew kind key head) m l' m') (hn : n < 20000) : askP c who head kind key m = (l'.out, m') := by
  simp only [askP, hk, if_true, runLst_of_ends h hn]

/-- keys of nodes -/
def keysOf (ns : List (Int × Int)) : List Int := ns.map (·.2)
theorem key_absent {ns pre post : List (Int × Int)} {K : Int} (e : ns = pre ++ post) (h1 : ∀ q ∈ pre, q.2 < K) (h2 : ∀ q ∈ post, K < q.2) : K ∉ keysOf ns := by
  intro h
  obtain ⟨q, hq, hK⟩ := List.mem_map.1 h
  rw [e] at hq
  rcases List.mem_append.1 hq with hq | hq
  · have := h1 q hq; omega
  · have := h2 q hq; omega
theorem key_present {ns pre post r : List (Int × Int)} {K : Int} (e : ns = pre ++ post) (h : post = (hdH post, K) :: r) : K ∈ keysOf ns := by
  rw [e, h]
  exact List.mem_map.2 ⟨(hdH post, K), List.mem_append_right _ (List.mem_cons_self ..), rfl⟩
variable {head K : Int} {ns : List (Int × Int)}
include hc hw0 hw1

/-- is a key there? -/
theorem op_has (li : LI c A head ns) (rs : RS c A who m) : ∃ n l' m', n ≤ 300 * ns.length + 200 ∧ Ends (listStep c who) (QA c who) n (listNew 1 K head) m l' m' ∧ RS c A who m' ∧ l'.out.e = 0 ∧ l'.out.value = if K ∈ keysOf ns then 1 else 0 := by
  obtain ⟨n, m1, pre, post, lk', sn', pc', out', e1, e2, e3, e4, e5⟩ := trav0 hc hw0 hw1 (kd := 1) (K := K) li rs
  rcases e5 with ⟨r', f1, f2, f3⟩ | ⟨f1, f2⟩
  · have e : listPresent (mkL 1 K head 2 (lsH head pre) (hdH post) lk' 0 sn' out') out'.stamp = ({ mkL 1 K head 2 (lsH head pre) (hdH post) lk' 0 sn' out' with out := ⟨0, 0, 1, out'.stamp⟩ }, true) := by
      simp only [listPresent, mkL, Int.reduceEq, if_false, listEnd, not_true]
    rw [e] at f3
    exact ⟨n, _, m1, e1, f3.ends, e2, rfl, by rw [if_pos (key_present e3 f1)]⟩
  · have e : listAbsent (mkL 1 K head pc' (lsH head pre) (hdH post) lk' 0 sn' out') = ({ mkL 1 K head pc' (lsH head pre) (hdH post) lk' 0 sn' out' with out := ⟨0, 0, 0, sn'⟩ }, true) := by
      simp only [listAbsent, mkL, Int.reduceEq, not_false_iff, if_true, listEnd, not_true, if_false]
    rw [e] at f2
    exact ⟨n, _, m1, e1, f2.ends, e2, rfl, by rw [if_neg (key_absent e3 e4 f1)]⟩

/-- a node is joined to a list -/
structure Joined (c : Cfg) (A A' : Ab) (head K : Int) (ns ns' : List (Int × Int)) (hn : Int) : Prop where
  made : ∃ A1 s g r, Made c A A1 2 true s g r ∧ hn = s + g * 65536 ∧ A'.fs = A1.fs ∧ A'.ck = A1.ck ∧ A'.op = A1.op ∧ A'.gb = A1.gb
  new : nod c A hn = none
  split : ∃ pre post, ns = pre ++ post ∧ ns' = pre ++ (hn, K) :: post ∧ (∀ q ∈ pre, q.2 < K) ∧ (∀ q ∈ post, K < q.2)
  li : LI c A' head ns'
  nods : ∀ h, h ≠ hn → h ∉ head :: ns.map (·.1) → nod c A' h = nod c A h
  other : ∀ s o, o.own = false → (A'.ob s = some o ↔ A.ob s = some o)
theorem other_set {s : Int} {o o2 : Ob} (ho : A.ob s = some o) (hw : o.own = true) (hw2 : o2.own = true) : ∀ s' o', o'.own = false → ((A.set s (some o2)).ob s' = some o' ↔ A.ob s' = some o') := by
  intro s' o' ho'
  by_cases h : s' = s
  · subst h
    rw [A.set_self, ho]
    constructor
    · intro e; simp only [Option.some.injEq] at e; subst e; rw [hw2] at ho'; cases ho'
    · intro e; simp only [Option.some.injEq] at e; subst e; rw [hw] at ho'; cases ho'
  · rw [A.set_ne _ h]
theorem op_add (li : LI c A head ns) (rs : RS c A who m) (hK0 : 0 ≤ K) (hK1 : K < 1073741824) :
    ∃ n l' m' A', n ≤ 300 * ns.length + 2000 ∧ Ends (listStep c who) (QA c who) n (listNew 2 K head) m l' m' ∧ RS c A' who m' ∧
      ((K ∈ keysOf ns ∧ A' = A ∧ l'.out.e = 0 ∧ l'.out.value = 0) ∨
       (K ∉ keysOf ns ∧ A' = A ∧ A.fs = [] ∧ l'.out.e = 7 ∧ l'.out.value = 0) ∨
       (K ∉ keysOf ns ∧ A' = A ∧ A.fs ≠ [] ∧ (∀ i, 0 ≤ i → i < c.chunks → A.ck i ≠ none) ∧ ¬ Fits c A 0 ∧ l'.out.e = 6 ∧ l'.out.value = 0) ∨
       (K ∉ keysOf ns ∧ (∃ ns' hn, Joined c A A' head K ns ns' hn) ∧ l'.out.e = 0 ∧ l'.out.value = 1)) := by
  obtain ⟨n, m1, pre, post, lk', sn', pc', out', e1, e2, e3, e4, e5⟩ := trav0 hc hw0 hw1 (kd := 2) (K := K) li rs
  rcases e5 with ⟨r', f1, f2, f3⟩ | ⟨f1, f2⟩
  · have e : listPresent (mkL 2 K head 2 (lsH head pre) (hdH post) lk' 0 sn' out') out'.stamp = ({ mkL 2 K head 2 (lsH head pre) (hdH post) lk' 0 sn' out' with out := ⟨0, 0, 0, out'.stamp⟩ }, true) := by
      simp only [listPresent, mkL, Int.reduceEq, if_false, if_true, listEnd, not_true]
    rw [e] at f3
    exact ⟨n, _, m1, A, by omega, f3.ends, e2, .inl ⟨key_present e3 f1, rfl, rfl, rfl⟩⟩
  · have hab := key_absent e3 e4 f1
    have e : listAbsent (mkL 2 K head pc' (lsH head pre) (hdH post) lk' 0 sn' out') = (mkL 2 K head 5 (lsH head pre) (hdH post) lk' 0 sn' out', false) := by
      simp only [listAbsent, mkL, not_true, if_false]
    rw [e] at f2
    have g0 := f2.go
    -- a node is made
    obtain ⟨i1, a1, m2, A1, hi1, q1, rs1, hd⟩ := did_alloc hc hw0 hw1 (A := A) (own := true) (size := 2) 0 0 0 0 m1 e2
    have w1 : listWant (mkL 2 K head 5 (lsH head pre) (hdH post) lk' 0 sn' out') = ⟨1, 2, 0, 0, 0, 0, true⟩ := by simp [listWant, mkL]
    have t1 := list_act (l := mkL 2 K head 5 (lsH head pre) (hdH post) lk' 0 sn' out') rfl (by rw [w1]; rfl) (by rw [w1]; exact q1)
    have cl : classOf 2 = 0 := by decide
    have told_no : ∀ x, x ≠ 0 → a1.out.e = x → listTold (mkL 2 K head 5 (lsH head pre) (hdH post) lk' 0 sn' out') a1.out = ({ mkL 2 K head 5 (lsH head pre) (hdH post) lk' 0 sn' out' with out := ⟨x, 0, 0, a1.out.stamp⟩ }, true) := fun x hx he => by
      simp only [listTold, listJoined, mkL, he, hx, Int.reduceEq, or_false, false_or, or_true, true_or, if_true, if_false, not_false_iff, listEnd, not_true]
    rcases hd with ⟨h1, _⟩ | ⟨_, h2, ⟨h3, h4, h5⟩, rfl⟩ | ⟨_, h2, ⟨h3, h4, h5⟩, rfl, h6, h7⟩ | ⟨_, s, g, r, hm, h3, h4, h5⟩
    · rw [cl] at h1; omega
    · rw [told_no 7 (by decide) h3] at t1
      exact ⟨_, _, m2, A1, by omega, g0.ends t1.ends, rs1, .inr (.inl ⟨hab, rfl, h2, rfl, rfl⟩)⟩
    · rw [told_no 6 (by decide) h3] at t1
      rw [cl] at h7
      exact ⟨_, _, m2, A1, by omega, g0.ends t1.ends, rs1, .inr (.inr (.inl ⟨hab, rfl, h2, h6, h7, rfl, rfl⟩))⟩
    · -- its slot, its handle
      have hfs := rs.wf.fs s (by rw [hm.fs]; exact List.mem_cons_self ..)
      obtain ⟨⟨s0, s1⟩, sn0, _, _⟩ := hfs
      have hg0 := hm.g0; have hg1 := hm.g1; have hcg := hc.g1; have hcs := hc.s1
      generalize hhn : s + g * 65536 = hn at h4
      obtain ⟨ad, hob⟩ := hm.ob
      have at1 := fun h' => at_made (c := c) (A := A) (A' := A1) (vs := List.replicate (2 : Int).toNat 0) s0 s1 hcs hg0 (by omega) sn0 hob h'
      rw [hhn] at at1
      have atn : A1.at' c hn = some (s, ⟨ad, true, g, [0, 0]⟩) := by rw [at1, if_pos rfl]; rfl
      have hr := at_range atn
      have hno : nod c A hn = none := by
        have : A.at' c hn = none := at_none_of fun s' o' e' => by
          obtain ⟨q1, q2, q3, q4, q5⟩ := at_iff.1 e'
          obtain ⟨r1, r2, r3⟩ := handle_of (s := s) (g := g) s0 (by omega) hg0 (by omega)
          rw [← q2, ← hhn, r2, sn0] at q4
          cases q4
        simp only [nod, this]
      have nod1 : ∀ h', h' ≠ hn → nod c A1 h' = nod c A h' := fun h' hne => by unfold nod; rw [at1, if_neg hne]
      have tm : listTold (mkL 2 K head 5 (lsH head pre) (hdH post) lk' 0 sn' out') a1.out = (mkL 2 K head 6 (lsH head pre) (hdH post) lk' hn sn' out', false) := by
        simp only [listTold, listJoined, mkL, h3, h4, Int.reduceEq, or_false, false_or, or_true, true_or, if_true, if_false, not_true]
      rw [tm] at t1
      have g1 := t1.go
      -- its key
      obtain ⟨i2, a2, m3, A2, hi2, q2, rs2, ⟨c1, c2, c3⟩, hA2⟩ := did_write hc hw0 hw1 (z := 0) (old := 0) (own := true) (i := 0) (k := 0) (x := 0) (v := K) atn rfl rfl rfl hK0 (by omega) m2 rs1
      have w2 : listWant (mkL 2 K head 6 (lsH head pre) (hdH post) lk' hn sn' out') = ⟨4, 0, hn, 0, K, 0, true⟩ := by simp [listWant, mkL]
      have ck2 : actCheck ⟨4, 0, hn, 0, K, 0, true⟩ = true := by
        have b1 : decide (K < 0) = false := decide_eq_false (by omega)
        have b2 : decide ((1099511627775 : Int) < K) = false := decide_eq_false (by omega)
        simp [actCheck, ltI, b1, b2]
      have t2 := list_act (l := mkL 2 K head 6 (lsH head pre) (hdH post) lk' hn sn' out') rfl (by rw [w2]; exact ck2) (by rw [w2]; exact q2)
      have tm2 : listTold (mkL 2 K head 6 (lsH head pre) (hdH post) lk' hn sn' out') a2.out = (mkL 2 K head 7 (lsH head pre) (hdH post) lk' hn sn' out', false) := by
        simp only [listTold, listJoined, mkL, Int.reduceEq, or_false, false_or, or_true, true_or, if_true, if_false]
      rw [tm2] at t2
      have g2 := t2.go
      simp only at hA2
      have atn2 : A2.at' c hn = some (s, ⟨ad, true, g, [K, 0]⟩) := by rw [hA2, at_set atn, if_pos rfl]; rfl
      have nod2 : ∀ h', h' ≠ hn → nod c A2 h' = nod c A h' := fun h' hne => by
        have := nod_set (k := K) (n := 0) atn rfl h'
        rw [hA2]
        exact (this.trans (if_neg hne)).trans (nod1 h' hne)
      -- its link
      have hlr : 0 ≤ hdH post ∧ hdH post < 4294967296 := by
        obtain ⟨k0, v0, hv0, hvl⟩ := li.hd
        rw [e3] at hvl
        exact Links.range (links_tail hvl)
      have ei : i64 (hdH post) = hdH post := i64_in' (by omega)
      obtain ⟨i3, a3, m4, A3, hi3, q3, rs3, ⟨d1, d2, d3⟩, hA3⟩ := did_write hc hw0 hw1 (z := 0) (old := 0) (own := true) (i := 1) (k := 1) (x := 0) (v := hdH post) atn2 rfl rfl rfl hlr.1 (by omega) m3 rs2
      have w3 : listWant (mkL 2 K head 7 (lsH head pre) (hdH post) lk' hn sn' out') = ⟨4, 0, hn, 1, hdH post, 0, true⟩ := by simp [listWant, mkL, ei]
      have ck3 : actCheck ⟨4, 0, hn, 1, hdH post, 0, true⟩ = true := by
        have b1 : decide (hdH post < 0) = false := decide_eq_false (by omega)
        have b2 : decide ((1099511627775 : Int) < hdH post) = false := decide_eq_false (by omega)
        simp [actCheck, ltI, b1, b2]
      have t3 := list_act (l := mkL 2 K head 7 (lsH head pre) (hdH post) lk' hn sn' out') rfl (by rw [w3]; exact ck3) (by rw [w3]; exact q3)
      have tm3 : listTold (mkL 2 K head 7 (lsH head pre) (hdH post) lk' hn sn' out') a3.out = (mkL 2 K head 8 (lsH head pre) (hdH post) lk' hn sn' out', false) := by
        simp only [listTold, listJoined, mkL, Int.reduceEq, or_false, false_or, or_true, true_or, if_true, if_false]
      rw [tm3] at t3
      have g3 := t3.go
      simp only at hA3
      have atn3 : A3.at' c hn = some (s, ⟨ad, true, g, [K, hdH post]⟩) := by rw [hA3, at_set atn2, if_pos rfl]; rfl
      have nod3 : ∀ h', h' ≠ hn → nod c A3 h' = nod c A h' := fun h' hne => by
        have := nod_set (k := K) (n := hdH post) atn2 rfl h'
        rw [hA3]
        exact (this.trans (if_neg hne)).trans (nod2 h' hne)
      -- it is joined
      obtain ⟨k0, v0, hv0, hvl⟩ := li.hd
      rw [e3] at hvl
      have hmemA : ∀ x ∈ head :: ns.map (·.1), ∃ y, nod c A x = some y := by
        have key : ∀ (l : List (Int × Int)) (v : Int), Links (nod c A) v l → ∀ x ∈ l.map (·.1), ∃ y, nod c A x = some y := by
          intro l
          induction l with
          | nil => intro v _ x hx; cases hx
          | cons q l ih =>
            obtain ⟨a, b⟩ := q
            rintro v ⟨_, n, h1, h2⟩ x hx
            rcases List.mem_cons.1 hx with rfl | hx
            · exact ⟨_, h1⟩
            · exact ih n h2 x hx
        intro x hx
        rcases List.mem_cons.1 hx with rfl | hx
        · exact ⟨_, hv0⟩
        · rw [e3] at hx; exact key _ _ hvl x hx
      have hnotin : hn ∉ head :: ns.map (·.1) := fun hx => by
        obtain ⟨y, hy⟩ := hmemA hn hx
        rw [hno] at hy; cases hy
      have hsub : ∀ x ∈ head :: pre.map (·.1), x ∈ head :: ns.map (·.1) := fun x hx => by
        rcases List.mem_cons.1 hx with rfl | hx
        · exact List.mem_cons_self ..
        · rw [e3, List.map_append]; exact List.mem_cons_of_mem _ (List.mem_append_left _ hx)
      obtain ⟨kp, hkp⟩ := links_last (pre := pre) (post := post) hv0 hvl
      have hpne : lsH head pre ≠ hn := fun e => hnotin (by rw [← e]; exact hsub _ (lsH_mem pre head))
      have hkp3 : nod c A3 (lsH head pre) = some (kp, hdH post) := by rw [nod3 _ hpne]; exact hkp
      obtain ⟨sp, op, ap1, ap2, ap3⟩ := nod_some hkp3
      obtain ⟨i4, a4, m5, A4, hi4, q4, rs4, ⟨x1, x2, x3⟩, hA4⟩ := did_cas hc hw0 hw1 (z := 0) (old := hdH post) (own := true) (i := 1) (k := 1) (v := hn) ap1 ap2 rfl (by rw [ap3]; rfl) (by omega) (by omega) m4 rs3
      have eh : i64 hn = hn := i64_in' (by omega)
      have w4 : listWant (mkL 2 K head 8 (lsH head pre) (hdH post) lk' hn sn' out') = ⟨5, 0, lsH head pre, 1, hn, hdH post, true⟩ := by simp [listWant, mkL, ei, eh]
      have ck4 : actCheck ⟨5, 0, lsH head pre, 1, hn, hdH post, true⟩ = true := by
        have b1 : decide (hdH post < 0) = false := decide_eq_false (by omega)
        have b2 : decide ((1099511627775 : Int) < hdH post) = false := decide_eq_false (by omega)
        have b3 : decide (hn < 0) = false := decide_eq_false (by omega)
        have b4 : decide ((1099511627775 : Int) < hn) = false := decide_eq_false (by omega)
        simp [actCheck, ltI, b1, b2, b3, b4]
      have t4 := list_act (l := mkL 2 K head 8 (lsH head pre) (hdH post) lk' hn sn' out') rfl (by rw [w4]; exact ck4) (by rw [w4]; exact q4)
      have tm4 : listTold (mkL 2 K head 8 (lsH head pre) (hdH post) lk' hn sn' out') a4.out = ({ mkL 2 K head 8 (lsH head pre) (hdH post) lk' 0 sn' out' with out := ⟨0, 0, 1, a4.out.stamp⟩ }, true) := by
        simp only [listTold, listJoined, mkL, x1, Int.reduceEq, or_false, false_or, or_true, true_or, if_true, if_false, not_true, listEnd]
      rw [tm4] at t4
      have hset : op.vs.set 1 hn = [kp, hn] := by rw [ap3]; rfl
      rw [hset] at hA4
      have nod4 : ∀ h', nod c A4 h' = if h' = lsH head pre then some (kp, hn) else nod c A3 h' := fun h' => by
        rw [hA4]; exact nod_set (k := kp) (n := hn) ap1 ap2 h'
      have hn4 : nod c A4 hn = some (K, hdH post) := by rw [nod4, if_neg (fun e => hpne e.symm)]; exact nod_of atn3 rfl rfl
      have hnd := li.nd
      rw [e3] at hnd
      have hndpre : (head :: pre.map (·.1)).Nodup := by
        rw [List.map_append, ← List.cons_append] at hnd
        exact (List.nodup_append.1 hnd).1
      have hsrt := li.srt
      rw [e3] at hsrt
      obtain ⟨hp1, hp2, hp3⟩ := List.pairwise_append.1 hsrt
      have ltail : Links (nod c A4) hn ((hn, K) :: post) := by
        refine ⟨rfl, hdH post, hn4, Links.keep (fun q hq => ?_) (links_tail hvl)⟩
        have hqm : q.1 ∈ head :: ns.map (·.1) := by rw [e3, List.map_append]; exact List.mem_cons_of_mem _ (List.mem_append_right _ (List.mem_map.2 ⟨q, hq, rfl⟩))
        have hq1 : q.1 ≠ hn := fun e => hnotin (by rw [← e]; exact hqm)
        have hq2 : q.1 ≠ lsH head pre := fun e => by
          rw [List.map_append, ← List.cons_append] at hnd
          exact (List.nodup_append.1 hnd).2.2 _ (lsH_mem pre head) _ (List.mem_map.2 ⟨q, hq, rfl⟩) e.symm
        rw [nod4, if_neg hq2, nod3 _ hq1]
      obtain ⟨v', z1, z2⟩ := links_redirect (N := nod c A) (N' := nod c A4) ltail (pre := pre) (tail := post) hv0 hvl hndpre (fun x hx => by
        have hx1 : x ≠ hn := fun e => hnotin (by rw [← e]; exact hsub x hx)
        rw [nod4]
        by_cases hxl : x = lsH head pre
        · rw [if_pos hxl, if_pos hxl, hxl, hkp]; rfl
        · rw [if_neg hxl, if_neg hxl, nod3 _ hx1])
      have li' : LI c A4 head (pre ++ (hn, K) :: post) := by
        refine ⟨⟨k0, v', z1, z2⟩, ?_, ?_⟩
        · rw [List.map_append, List.map_cons, ← List.cons_append]
          rw [List.map_append, ← List.cons_append] at hnd
          obtain ⟨y1, y2, y3⟩ := List.nodup_append.1 hnd
          refine List.nodup_append.2 ⟨y1, List.nodup_cons.2 ⟨fun hx => hnotin ?_, y2⟩, fun a ha b hb => ?_⟩
          · rw [e3, List.map_append]; exact List.mem_cons_of_mem _ (List.mem_append_right _ hx)
          · rcases List.mem_cons.1 hb with rfl | hb
            · intro e; exact hnotin (by rw [← e]; exact hsub a ha)
            · exact y3 a ha b hb
        · refine List.pairwise_append.2 ⟨hp1, List.pairwise_cons.2 ⟨fun q hq => f1 q hq, hp2⟩, fun a ha b hb => ?_⟩
          rcases List.mem_cons.1 hb with rfl | hb
          · exact e4 a ha
          · exact hp3 a ha b hb
      refine ⟨_, _, m5, A4, ?_, (((g0.trans g1).trans g2).trans g3).ends t4.ends, rs4, .inr (.inr (.inr ⟨hab, ⟨_, hn, ⟨⟨A1, s, g, r, hm, hhn.symm, ?_, ?_, ?_, ?_⟩, hno, ⟨pre, post, e3, rfl, e4, f1⟩, li', fun h hh1 hh2 => ?_, fun s' o' ho' => ?_⟩⟩, rfl, rfl⟩))⟩
      · omega
      · rw [hA4, hA3, hA2]; rfl
      · rw [hA4, hA3, hA2]; rfl
      · rw [hA4, hA3, hA2]; rfl
      · rw [hA4, hA3, hA2]; rfl
      · rw [nod4, if_neg (fun e => hh2 (by rw [e]; exact hsub _ (lsH_mem pre head))), nod3 _ hh1]
      · have o4 := other_set hc hw0 hw1 (A := A3) (o2 := { op with vs := [kp, hn] }) (at_iff.1 ap1).2.2.2.1 ap2 ap2 s' o' ho'
        have o3 := other_set hc hw0 hw1 (A := A2) (o2 := ⟨ad, true, g, [K, hdH post]⟩) (at_iff.1 atn2).2.2.2.1 rfl rfl s' o' ho'
        have o2 := other_set hc hw0 hw1 (A := A1) (o2 := ⟨ad, true, g, [K, 0]⟩) (at_iff.1 atn).2.2.2.1 rfl rfl s' o' ho'
        have ho1 : A1.ob s' = some o' ↔ A.ob s' = some o' := by
          rw [hob]
          by_cases hss : s' = s
          · subst hss
            simp only [if_true]
            constructor
            · intro e; simp only [Option.some.injEq] at e; subst e; cases ho'
            · intro e; rw [sn0] at e; cases e
          · simp only [if_neg hss]
        have E4 : A4.ob s' = some o' ↔ A3.ob s' = some o' := by rw [hA4]; exact o4
        have E3 : A3.ob s' = some o' ↔ A2.ob s' = some o' := by rw [hA3]; exact o3
        have E2 : A2.ob s' = some o' ↔ A1.ob s' = some o' := by rw [hA2]; exact o2
        exact E4.trans (E3.trans (E2.trans ho1))
end
end Go.Fl

/- An arena at rest: a key is taken out of a list, alone; room for nodes. In plain Lean. -/
namespace Go.Fl
open Go Go.Sx
set_option linter.unusedVariables false
set_option linter.unusedSimpArgs false
set_option linter.unusedSectionVars false

section
variable {c : Cfg} {A A' : Ab} {m m' : Mem} {who : Int} (hc : CfgOK c) (hw0 : 0 ≤ who) (hw1 : who < c.threads)
variable {head K : Int} {ns : List (Int × Int)}
/-- what stands in a list are nodes -/
theorem LI.nodes (li : LI c A head ns) : ∀ x ∈ head :: ns.map (·.1), ∃ y, nod c A x = some y := by
  obtain ⟨k0, v0, hv0, hvl⟩ := li.hd
  have key : ∀ (l : List (Int × Int)) (v : Int), Links (nod c A) v l → ∀ x ∈ l.map (·.1), ∃ y, nod c A x = some y := by
    intro l
    induction l with
    | nil => intro v _ x hx; cases hx
    | cons q l ih =>
      obtain ⟨a, b⟩ := q
      rintro v ⟨_, n, h1, h2⟩ x hx
      rcases List.mem_cons.1 hx with rfl | hx
      · exact ⟨_, h1⟩
      · exact ih n h2 x hx
  intro x hx
  rcases List.mem_cons.1 hx with rfl | hx
  · exact ⟨_, hv0⟩
  · exact key _ _ hvl x hx
/-- a node goes out of a list -/
structure Left (c : Cfg) (A A' : Ab) (head K : Int) (ns ns' : List (Int × Int)) (hn : Int) : Prop where
  split : ∃ pre post, ns = pre ++ (hn, K) :: post ∧ ns' = pre ++ post
  slot : ∃ s o, A.at' c hn = some (s, o) ∧ A'.fs = (if o.gen < c.gens then s :: A.fs else A.fs)
  ck : A'.ck = A.ck
  op : A'.op = A.op
  gb : A'.gb = A.gb + 1
  li : LI c A' head ns'
  nods : ∀ h, h ∉ head :: ns.map (·.1) → nod c A' h = nod c A h
  other : ∀ s o, o.own = false → (A'.ob s = some o ↔ A.ob s = some o)
include hc hw0 hw1
theorem op_remove (li : LI c A head ns) (rs : RS c A who m) :
    ∃ n l' m' A', n ≤ 300 * ns.length + 2000 ∧ Ends (listStep c who) (QA c who) n (listNew 3 K head) m l' m' ∧ RS c A' who m' ∧ l'.out.e = 0 ∧
      ((K ∉ keysOf ns ∧ A' = A ∧ l'.out.value = 0) ∨ (K ∈ keysOf ns ∧ (∃ ns' hn, Left c A A' head K ns ns' hn) ∧ l'.out.value = 1)) := by
  obtain ⟨n, m1, pre, post, lk', sn', pc', out', e1, e2, e3, e4, e5⟩ := trav0 hc hw0 hw1 (kd := 3) (K := K) li rs
  rcases e5 with ⟨r', f1, f2, f3⟩ | ⟨f1, f2⟩
  · have e : listPresent (mkL 3 K head 2 (lsH head pre) (hdH post) lk' 0 sn' out') out'.stamp = (mkL 3 K head 9 (lsH head pre) (hdH post) lk' 0 sn' out', false) := by
      simp only [listPresent, mkL, if_true]
    rw [e] at f3
    have g0 := f3.go
    have hin := key_present e3 f1
    generalize hhx : hdH post = hx at *
    obtain ⟨k0, v0, hv0, hvl⟩ := li.hd
    rw [e3] at hvl
    have hr := nod_range f2
    have htl := links_tail hvl
    rw [hhx, f1] at htl
    obtain ⟨_, lk2, hlk2, hlr⟩ := htl
    have hlk : lk2 = lk' := by rw [f2] at hlk2; simp only [Option.some.injEq, Prod.mk.injEq] at hlk2; exact hlk2.2.symm
    subst hlk
    obtain ⟨l0, l1⟩ := Links.range hlr
    -- it is marked
    obtain ⟨s1, o1, a1, a2, a3⟩ := nod_some f2
    have hmark : ibits .or lk2 4294967296 = lk2 + 4294967296 := ior_bit lk2 l0 l1
    obtain ⟨i1, b1, m2, A1, hi1, q1, rs1, ⟨c1, c2, c3⟩, hA1⟩ := did_cas hc hw0 hw1 (z := 0) (old := lk2) (own := true) (i := 1) (k := 1) (v := lk2 + 4294967296) a1 a2 rfl (by rw [a3]; rfl) (by omega) (by omega) m1 e2
    have w1 : listWant (mkL 3 K head 9 (lsH head pre) hx lk2 0 sn' out') = ⟨5, 0, hx, 1, lk2 + 4294967296, lk2, true⟩ := by simp [listWant, mkL, hmark]
    have ck1 : actCheck ⟨5, 0, hx, 1, lk2 + 4294967296, lk2, true⟩ = true := by
      have b1 : decide (lk2 < 0) = false := decide_eq_false (by omega)
      have b2 : decide ((1099511627775 : Int) < lk2) = false := decide_eq_false (by omega)
      have b3 : decide (lk2 + 4294967296 < 0) = false := decide_eq_false (by omega)
      have b4 : decide ((1099511627775 : Int) < lk2 + 4294967296) = false := decide_eq_false (by omega)
      simp [actCheck, ltI, b1, b2, b3, b4]
    have t1 := list_act (l := mkL 3 K head 9 (lsH head pre) hx lk2 0 sn' out') rfl (by rw [w1]; exact ck1) (by rw [w1]; exact q1)
    have tm1 : listTold (mkL 3 K head 9 (lsH head pre) hx lk2 0 sn' out') b1.out = (mkL 3 K head 10 (lsH head pre) hx lk2 0 sn' ⟨0, 0, 1, b1.out.stamp⟩, false) := by
      simp only [listTold, listRemoved, mkL, c1, Int.reduceEq, or_false, false_or, or_true, true_or, if_true, if_false, not_true]
    rw [tm1] at t1
    have g1 := t1.go
    have hset1 : o1.vs.set 1 (lk2 + 4294967296) = [K, lk2 + 4294967296] := by rw [a3]; rfl
    rw [hset1] at hA1
    have nod1 : ∀ h', nod c A1 h' = if h' = hx then some (K, lk2 + 4294967296) else nod c A h' := fun h' => by rw [hA1]; exact nod_set a1 a2 h'
    -- it is taken out
    have hnd := li.nd
    rw [e3, f1] at hnd
    have hxin : hx ∉ head :: pre.map (·.1) := by
      rw [List.map_append, ← List.cons_append] at hnd
      intro h
      exact (List.nodup_append.1 hnd).2.2 _ h hx (List.mem_cons_self ..) rfl
    have hpne : lsH head pre ≠ hx := fun e => hxin (by rw [← e]; exact lsH_mem pre head)
    obtain ⟨kp, hkp⟩ := links_last (pre := pre) (post := post) hv0 hvl
    rw [hhx] at hkp
    have hkp1 : nod c A1 (lsH head pre) = some (kp, hx) := by rw [nod1, if_neg hpne]; exact hkp
    obtain ⟨sp, op, p1, p2, p3⟩ := nod_some hkp1
    obtain ⟨i2, b2, m3, A2, hi2, q2, rs2, ⟨d1, d2, d3⟩, hA2⟩ := did_cas hc hw0 hw1 (z := 0) (old := hx) (own := true) (i := 1) (k := 1) (v := lk2) p1 p2 rfl (by rw [p3]; rfl) l0 (by omega) m2 rs1
    have ei : i64 hx = hx := i64_in' (by omega)
    have el : putLink (linkNext lk2) false = lk2 := by rw [(link_small l0 l1).1, putLink_val lk2 false l0 l1]; simp
    have w2 : listWant (mkL 3 K head 10 (lsH head pre) hx lk2 0 sn' ⟨0, 0, 1, b1.out.stamp⟩) = ⟨5, 0, lsH head pre, 1, lk2, hx, true⟩ := by simp [listWant, mkL, ei, el]
    have ck2 : actCheck ⟨5, 0, lsH head pre, 1, lk2, hx, true⟩ = true := by
      have b1 : decide (lk2 < 0) = false := decide_eq_false (by omega)
      have b2 : decide ((1099511627775 : Int) < lk2) = false := decide_eq_false (by omega)
      have b3 : decide (hx < 0) = false := decide_eq_false (by omega)
      have b4 : decide ((1099511627775 : Int) < hx) = false := decide_eq_false (by omega)
      simp [actCheck, ltI, b1, b2, b3, b4]
    have t2 := list_act (l := mkL 3 K head 10 (lsH head pre) hx lk2 0 sn' ⟨0, 0, 1, b1.out.stamp⟩) rfl (by rw [w2]; exact ck2) (by rw [w2]; exact q2)
    have tm2 : listTold (mkL 3 K head 10 (lsH head pre) hx lk2 0 sn' ⟨0, 0, 1, b1.out.stamp⟩) b2.out = (mkL 3 K head 11 (lsH head pre) hx lk2 0 sn' ⟨0, 0, 1, b1.out.stamp⟩, false) := by
      simp [listTold, listRemoved, mkL, d1]
    rw [tm2] at t2
    have g2 := t2.go
    have hset2 : op.vs.set 1 lk2 = [kp, lk2] := by rw [p3]; rfl
    rw [hset2] at hA2
    have nod2 : ∀ h', nod c A2 h' = if h' = lsH head pre then some (kp, lk2) else nod c A1 h' := fun h' => by rw [hA2]; exact nod_set p1 p2 h'
    -- it is let go
    have hx2 : nod c A2 hx = some (K, lk2 + 4294967296) := by rw [nod2, if_neg (fun e => hpne e.symm), nod1, if_pos rfl]
    obtain ⟨s3, o3, r1, r2, r3⟩ := nod_some hx2
    obtain ⟨i3, b3, m4, A3, hi3, q3, rs3, ⟨x1, x2, x3⟩, hA3⟩ := did_free hc hw0 hw1 (z := 0) (i := 0) (v := 0) (old := 0) (own := true) r1 r2 m3 rs2
    have w3 : listWant (mkL 3 K head 11 (lsH head pre) hx lk2 0 sn' ⟨0, 0, 1, b1.out.stamp⟩) = ⟨2, 0, hx, 0, 0, 0, true⟩ := by simp [listWant, mkL]
    have t3 := list_act (l := mkL 3 K head 11 (lsH head pre) hx lk2 0 sn' ⟨0, 0, 1, b1.out.stamp⟩) rfl (by rw [w3]; rfl) (by rw [w3]; exact q3)
    have tm3 : listTold (mkL 3 K head 11 (lsH head pre) hx lk2 0 sn' ⟨0, 0, 1, b1.out.stamp⟩) b3.out = (mkL 3 K head 11 (lsH head pre) hx lk2 0 sn' ⟨0, 0, 1, b1.out.stamp⟩, true) := by
      simp only [listTold, listRemoved, mkL, Int.reduceEq, or_false, false_or, or_true, true_or, if_true, if_false]
    rw [tm3] at t3
    have nod3 : ∀ h', nod c A3 h' = if h' = hx then none else nod c A2 h' := fun h' => nod_killed r1 (by rw [hA3]; exact drop_ob ..) h'
    have hndpre : (head :: pre.map (·.1)).Nodup := by
      rw [List.map_append, ← List.cons_append] at hnd
      exact (List.nodup_append.1 hnd).1
    have hsrt := li.srt
    rw [e3, f1] at hsrt
    have ltail : Links (nod c A3) lk2 r' := by
      refine Links.keep (fun q hq => ?_) hlr
      rw [List.map_append, ← List.cons_append, List.map_cons] at hnd
      obtain ⟨y1, y2, y3⟩ := List.nodup_append.1 hnd
      have hqr : q.1 ∈ r'.map (·.1) := List.mem_map.2 ⟨q, hq, rfl⟩
      have hq1 : q.1 ≠ hx := fun e => (List.nodup_cons.1 y2).1 (by rw [← e]; exact hqr)
      have hq2 : q.1 ≠ lsH head pre := fun e => y3 _ (lsH_mem pre head) _ (List.mem_cons_of_mem _ hqr) e.symm
      rw [nod3, if_neg hq1, nod2, if_neg hq2, nod1, if_neg hq1]
    obtain ⟨v', z1, z2⟩ := links_redirect (N := nod c A) (N' := nod c A3) ltail (pre := pre) (tail := post) hv0 hvl hndpre (fun x hxm => by
      have hx1 : x ≠ hx := fun e => hxin (by rw [← e]; exact hxm)
      rw [nod3, if_neg hx1, nod2]
      by_cases hxl : x = lsH head pre
      · rw [if_pos hxl, if_pos hxl, hxl, hkp]; rfl
      · rw [if_neg hxl, if_neg hxl, nod1, if_neg hx1])
    obtain ⟨hp1, hp2, hp3⟩ := List.pairwise_append.1 hsrt
    have li' : LI c A3 head (pre ++ r') := by
      refine ⟨⟨k0, v', z1, z2⟩, ?_, ?_⟩
      · rw [List.map_append, ← List.cons_append]
        rw [List.map_append, ← List.cons_append, List.map_cons] at hnd
        obtain ⟨y1, y2, y3⟩ := List.nodup_append.1 hnd
        exact List.nodup_append.2 ⟨y1, (List.nodup_cons.1 y2).2, fun a ha b hb => y3 a ha b (List.mem_cons_of_mem _ hb)⟩
      · exact List.pairwise_append.2 ⟨hp1, (List.pairwise_cons.1 hp2).2, fun a ha b hb => hp3 a ha b (List.mem_cons_of_mem _ hb)⟩
    -- the slot that is free
    have hs3 : s3 = s1 ∧ o3.gen = o1.gen := by
      have k1 := at_set (c := c) (A := A) a1 [K, lk2 + 4294967296] hx
      rw [if_pos rfl, ← hA1] at k1
      have k2 := at_set (c := c) (A := A1) p1 [kp, lk2] hx
      rw [if_neg (fun e => hpne e.symm), ← hA2, k1] at k2
      rw [k2] at r1
      simp only [Option.some.injEq, Prod.mk.injEq] at r1
      exact ⟨r1.1.symm, by rw [← r1.2]⟩
    refine ⟨_, _, m4, A3, ?_, ((g0.trans g1).trans g2).ends t3.ends, rs3, rfl, .inr ⟨hin, ⟨_, hx, ⟨⟨pre, r', by rw [e3, f1], rfl⟩, ⟨s1, o1, a1, ?_⟩, ?_, ?_, ?_, li', fun h hh => ?_, fun s' o' ho' => ?_⟩⟩, rfl⟩⟩
    · omega
    · rw [hA3, ← hs3.1, ← hs3.2]
      unfold Ab.drop
      split <;> (rw [hA2, hA1]; rfl)
    · rw [hA3]; unfold Ab.drop; split <;> (rw [hA2, hA1]; rfl)
    · rw [hA3]; unfold Ab.drop; split <;> (rw [hA2, hA1]; rfl)
    · rw [hA3]; unfold Ab.drop; split <;> (rw [hA2, hA1]; rfl)
    · have hsub : ∀ x ∈ head :: pre.map (·.1), x ∈ head :: ns.map (·.1) := fun x hx => by
        rcases List.mem_cons.1 hx with rfl | hx
        · exact List.mem_cons_self ..
        · rw [e3, List.map_append]; exact List.mem_cons_of_mem _ (List.mem_append_left _ hx)
      have h1 : h ≠ hx := fun e => hh (by rw [e, e3, f1, List.map_append]; exact List.mem_cons_of_mem _ (List.mem_append_right _ (List.mem_cons_self ..)))
      have h2 : h ≠ lsH head pre := fun e => hh (by rw [e]; exact hsub _ (lsH_mem pre head))
      rw [nod3, if_neg h1, nod2, if_neg h2, nod1, if_neg h1]
    · have E1 : A1.ob s' = some o' ↔ A.ob s' = some o' := by rw [hA1]; exact other_set hc hw0 hw1 (o2 := { o1 with vs := [K, lk2 + 4294967296] }) (at_iff.1 a1).2.2.2.1 a2 a2 s' o' ho'
      have E2 : A2.ob s' = some o' ↔ A1.ob s' = some o' := by rw [hA2]; exact other_set hc hw0 hw1 (o2 := { op with vs := [kp, lk2] }) (at_iff.1 p1).2.2.2.1 p2 p2 s' o' ho'
      have E3 : A3.ob s' = some o' ↔ A2.ob s' = some o' := by
        rw [hA3, drop_ob]
        by_cases hss : s' = s3
        · subst hss
          rw [A2.set_self, (at_iff.1 r1).2.2.2.1]
          constructor
          · intro e; cases e
          · intro e; simp only [Option.some.injEq] at e; subst e; rw [r2] at ho'; cases ho'
        · rw [A2.set_ne _ hss]
      exact E3.trans (E2.trans E1)
  · have e : listAbsent (mkL 3 K head pc' (lsH head pre) (hdH post) lk' 0 sn' out') = ({ mkL 3 K head pc' (lsH head pre) (hdH post) lk' 0 sn' out' with out := ⟨0, 0, 0, sn'⟩ }, true) := by
      simp only [listAbsent, mkL, Int.reduceEq, not_false_iff, if_true, listEnd, not_true, if_false]
    rw [e] at f2
    exact ⟨n, _, m1, A, by omega, f2.ends, e2, rfl, .inl ⟨key_absent e3 e4 f1, rfl, rfl⟩⟩
omit hc hw0 hw1

/-! ### room for nodes -/
/-- so many nodes more may be made, as far as words go -/
def Room (c : Cfg) (A : Ab) (q : Nat) : Prop :=
  ∃ (free : List Int) (r : Nat), free.Nodup ∧ (∀ i ∈ free, 0 ≤ i ∧ i < c.chunks ∧ A.ck i = none) ∧ (r = 0 ∨ ∃ u, A.ck (A.op 0 - 1) = some (0, u) ∧ 1 ≤ A.op 0 ∧ 0 ≤ u ∧ u + 3 * r ≤ c.words) ∧ q ≤ free.length * (c.words / 3).toNat + r
theorem Room.pos {q : Nat} (h : Room c A (q + 1)) : (∃ i, 0 ≤ i ∧ i < c.chunks ∧ A.ck i = none) ∨ Fits c A 0 := by
  obtain ⟨free, r, h1, h2, h3, h4⟩ := h
  cases free with
  | cons i l => exact .inl ⟨i, h2 i (List.mem_cons_self ..)⟩
  | nil =>
    simp only [List.length_nil, Nat.zero_mul, Nat.zero_add] at h4
    rcases h3 with h3 | ⟨u, a, b, d, e⟩
    · omega
    · refine .inr ⟨u, a, b, ?_⟩
      have : roomOf 0 = 3 := by decide
      omega
theorem Room.made {q : Nat} {s g : Int} {r : List Int} {own : Bool} (hc : CfgOK c) (h : Room c A (q + 1)) (hm : Made c A A' 2 own s g r) : Room c A' q := by
  obtain ⟨free, r, h1, h2, h3, h4⟩ := h
  have hw := hc.w0
  have cl : classOf 2 = 0 := by decide
  have rm : roomOf 0 = 3 := by decide
  obtain ⟨j, u, j0, j1, u0, u1, hck, hop⟩ := hm.ck
  rw [cl] at u1 hck hop
  rw [rm] at u1 hck
  rcases hop with ⟨o1, o2, o3⟩ | ⟨o1, rfl, o3, o4⟩
  · -- of the open one
    refine ⟨free, r - 1, h1, fun i hi => ?_, ?_, by omega⟩
    · obtain ⟨a, b, d⟩ := h2 i hi
      have : i ≠ j := fun e => by rw [e, o2] at d; cases d
      exact ⟨a, b, by rw [hck, setF_ne _ _ this]; exact d⟩
    · rcases h3 with h3 | ⟨u', a, b, d, e⟩
      · left; omega
      · right
        have hj : A.op 0 - 1 = j := by omega
        rw [hj, o2] at a
        simp only [Option.some.injEq, Prod.mk.injEq, true_and] at a
        subst a
        refine ⟨u + 3, by rw [o3, hj, hck, setF_self], by rw [o3]; omega, by omega, by omega⟩
  · -- of a free one
    have hr0 : r = 0 := by
      rcases h3 with h3 | ⟨u', a, b, d, e⟩
      · exact h3
      · rcases Nat.eq_zero_or_pos r with h | h
        · exact h
        · exact absurd ⟨u', a, b, by rw [rm]; omega⟩ o4
    subst hr0
    have hw3 : 0 < (c.words / 3).toNat := by omega
    refine ⟨free.erase j, (c.words / 3).toNat - 1, h1.erase j, fun i hi => ?_, .inr ⟨3, ?_, ?_, by omega, by omega⟩, ?_⟩
    · obtain ⟨hij, hif⟩ := (List.Nodup.mem_erase_iff h1).1 hi
      obtain ⟨a, b, d⟩ := h2 i hif
      exact ⟨a, b, by rw [hck, setF_ne _ _ hij]; exact d⟩
    · rw [o3, setF_self, show j + 1 - 1 = j by omega, hck, setF_self]; rfl
    · rw [o3, setF_self]; omega
    · have hl : free.length ≤ (free.erase j).length + 1 := by
        by_cases hj : j ∈ free
        · rw [List.length_erase_of_mem hj]; omega
        · rw [List.erase_of_not_mem hj]; omega
      generalize (c.words / 3).toNat = w3 at *
      have : free.length * w3 ≤ ((free.erase j).length + 1) * w3 := Nat.mul_le_mul_right _ hl
      rw [Nat.add_mul, Nat.one_mul] at this
      omega
theorem Room.same {q : Nat} (h : Room c A q) (h1 : A'.ck = A.ck) (h2 : A'.op = A.op) : Room c A' q := by
  obtain ⟨free, r, a, b, d, e⟩ := h
  exact ⟨free, r, a, fun i hi => by rw [h1]; exact b i hi, by rw [h1, h2]; exact d, e⟩
end
end Go.Fl

/- An arena at the beginning is at rest; a list without keys in it. In plain Lean. -/
namespace Go.Fl
open Go Go.Sx
set_option linter.unusedVariables false
set_option linter.unusedSimpArgs false
set_option linter.unusedSectionVars false

section
variable {c : Cfg} (hc : CfgOK c)
theorem val_new (n b : Int) : (memNew n).val b = 0 := by
  unfold Mem.val
  split
  · simp only [Mem.at', memNew, List.getD_eq_getElem?_getD, List.getElem?_replicate]
    split <;> rfl
  · rfl
include hc
theorem len_new : (memNew (lenOf c)).len = dat c + c.words * c.chunks := by
  have dl := hc.dat_lt
  have ht := hc.t0; have hs0 := hc.s0; have hk0 := hc.k0
  obtain ⟨p1, p2, p3⟩ := hc.prod (i := c.chunks) (by omega) (Int.le_refl _)
  rw [hc.len]
  simp only [Mem.len, memNew, List.length_replicate]
  simp only [dat] at *
  omega
theorem fresh_loop : ∀ (k : Nat) (i : Int) (m : Mem), 0 ≤ i → i + k ≤ c.slots → m.len = dat c + c.words * c.chunks →
    (freshLoop c k i m).len = dat c + c.words * c.chunks ∧
    (∀ j, i ≤ j → j < i + k → (freshLoop c k i m).val (6 + c.threads + 2 * j) = putSlot 0 0 1 0 ∧ (freshLoop c k i m).val (6 + c.threads + 2 * j + 1) = putTop (j + 1) 0) ∧
    ∀ b, (b < 6 + c.threads + 2 * i ∨ 6 + c.threads + 2 * (i + k) ≤ b) → (freshLoop c k i m).val b = m.val b
  | 0, i, m, h0, h1, hl => ⟨hl, fun j h2 h3 => by omega, fun b hb => rfl⟩
  | k + 1, i, m, h0, h1, hl => by
    have dl := hc.dat_lt
    have ht := hc.t0; have hs0 := hc.s0; have hk0 := hc.k0; have hs1 := hc.s1
    obtain ⟨p1, p2, p3⟩ := hc.prod (i := c.chunks) (by omega) (Int.le_refl _)
    have hd : 6 + c.threads + 2 * c.slots + 3 * c.chunks = dat c := rfl
    have es := hc.slot h0 (by omega : i ≤ c.slots)
    have es' := hc.slot' h0 (by omega : i ≤ c.slots)
    have ei : i64 (i + 1) = i + 1 := i64_in' (by omega)
    rw [es] at es'
    have k1 : m.okA (6 + c.threads + 2 * i) = true := by rw [Mem.okA_iff, hl]; omega
    have k2 : (m.store m.who (6 + c.threads + 2 * i) (putSlot 0 0 1 0)).okA (6 + c.threads + 2 * i + 1) = true := by rw [Mem.okA_iff, Mem.len_store, hl]; omega
    have e : freshLoop c (k + 1) i m = freshLoop c k (i + 1) ((m.store m.who (6 + c.threads + 2 * i) (putSlot 0 0 1 0)).store m.who (6 + c.threads + 2 * i + 1) (putTop (i + 1) 0)) := by
      simp only [freshLoop, freshOne, es, es', ei]
    have v : ∀ b, ((m.store m.who (6 + c.threads + 2 * i) (putSlot 0 0 1 0)).store m.who (6 + c.threads + 2 * i + 1) (putTop (i + 1) 0)).val b =
        if b = 6 + c.threads + 2 * i + 1 then putTop (i + 1) 0 else if b = 6 + c.threads + 2 * i then putSlot 0 0 1 0 else m.val b := fun b => by rw [Mem.val_store k2, Mem.val_store k1]
    obtain ⟨q1, q2, q3⟩ := fresh_loop k (i + 1) ((m.store m.who (6 + c.threads + 2 * i) (putSlot 0 0 1 0)).store m.who (6 + c.threads + 2 * i + 1) (putTop (i + 1) 0)) (by omega) (by omega) (by rw [Mem.len_store, Mem.len_store]; exact hl)
    rw [e]
    refine ⟨q1, fun j h2 h3 => ?_, fun b hb => ?_⟩
    · by_cases hj : j = i
      · subst hj
        rw [q3 _ (by omega), q3 _ (by omega), v, v, if_neg (by omega), if_pos rfl, if_pos rfl]
        exact ⟨rfl, rfl⟩
      · exact q2 j (by omega) (by omega)
    · rw [q3 b (by omega), v, if_neg (by omega), if_neg (by omega)]

/-- so many numbers, from one on -/
def seqI (i : Int) : Nat → List Int
  | 0 => []
  | k + 1 => i :: seqI (i + 1) k
omit hc in
theorem seqI_mem : ∀ (k : Nat) (i j : Int), j ∈ seqI i k ↔ i ≤ j ∧ j < i + k
  | 0, i, j => by simp [seqI]
  | k + 1, i, j => by
    simp only [seqI, List.mem_cons, seqI_mem k]
    omega
omit hc in
theorem seqI_nd : ∀ (k : Nat) (i : Int), (seqI i k).Nodup
  | 0, i => List.nodup_nil
  | k + 1, i => List.nodup_cons.2 ⟨by rw [seqI_mem]; omega, seqI_nd k (i + 1)⟩
omit hc in
theorem seqI_len : ∀ (k : Nat) (i : Int), (seqI i k).length = k
  | 0, i => rfl
  | k + 1, i => by simp [seqI, seqI_len k]
omit hc in
theorem seqI_hd (k : Nat) (i : Int) : hdI (seqI i k) = if k = 0 then -1 else i := by cases k <;> simp [seqI, hdI]

/-- an arena at the beginning -/
def Ab0 (c : Cfg) : Ab := ⟨seqI 0 c.slots.toNat, fun _ => none, fun _ => none, fun _ => 0, 1⟩
theorem fresh_wf : WF c (Ab0 c) (freshMem c) ∧ (∀ b, b < 6 + c.threads → b ≠ 1 → (freshMem c).val b = 0) := by
  have dl := hc.dat_lt
  have ht := hc.t0; have hs0 := hc.s0; have hk0 := hc.k0; have hs1 := hc.s1; have hg0 := hc.g0
  obtain ⟨p1, p2, p3⟩ := hc.prod (i := c.chunks) (by omega) (Int.le_refl _)
  have hd : 6 + c.threads + 2 * c.slots + 3 * c.chunks = dat c := rfl
  obtain ⟨q1, q2, q3⟩ := fresh_loop hc c.slots.toNat 0 (memNew (lenOf c)) (Int.le_refl _) (by omega) (len_new hc)
  have e0 : freshFrom c 0 (memNew (lenOf c)) = freshLoop c c.slots.toNat 0 (memNew (lenOf c)) := by simp only [freshFrom, Int.sub_zero]
  have ei : i64 (c.slots - 1) = c.slots - 1 := i64_in' (by omega)
  have es1 := hc.slot (i := c.slots - 1) (by omega) (by omega)
  have es := hc.slot' (i := c.slots - 1) (by omega) (by omega)
  rw [es1] at es
  generalize hm1 : freshLoop c c.slots.toNat 0 (memNew (lenOf c)) = m1 at *
  have k1 : m1.okA (6 + c.threads + 2 * (c.slots - 1) + 1) = true := by rw [Mem.okA_iff, q1]; omega
  have k2 : (m1.store m1.who (6 + c.threads + 2 * (c.slots - 1) + 1) (putTop (-1) 0)).okA 1 = true := by rw [Mem.okA_iff, Mem.len_store, q1]; omega
  have e1 : freshMem c = (m1.store m1.who (6 + c.threads + 2 * (c.slots - 1) + 1) (putTop (-1) 0)).store m1.who 1 (putTop 0 0) := by
    simp only [freshMem, e0, freshEnd, ei, es1, es]
  have v : ∀ b, (freshMem c).val b = if b = 1 then putTop 0 0 else if b = 6 + c.threads + 2 * (c.slots - 1) + 1 then putTop (-1) 0 else m1.val b := fun b => by rw [e1, Mem.val_store k2, Mem.val_store k1]
  have vs : ∀ j, 0 ≤ j → j < c.slots → (freshMem c).val (6 + c.threads + 2 * j) = putSlot 0 0 1 0 := fun j h0 h1 => by
    rw [v, if_neg (by omega), if_neg (by omega)]; exact (q2 j h0 (by omega)).1
  have vl : ∀ j, 0 ≤ j → j < c.slots → (freshMem c).val (6 + c.threads + 2 * j + 1) = putTop (if j + 1 = c.slots then -1 else j + 1) 0 := fun j h0 h1 => by
    rw [v, if_neg (by omega)]
    by_cases hj : j + 1 = c.slots
    · rw [if_pos (by omega), if_pos hj]
    · rw [if_neg (by omega), if_neg hj]; exact (q2 j h0 (by omega)).2
  have vz : ∀ b, b ≠ 1 → (b < 6 + c.threads ∨ 6 + c.threads + 2 * c.slots ≤ b) → (freshMem c).val b = 0 := fun b h1 h2 => by
    rw [v, if_neg h1, if_neg (by omega), q3 b (by omega), val_new]
  obtain ⟨d1, d2, d3⟩ := slot_of 0 0 1 0
  have hgen : slotGen (putSlot 0 0 1 0) = 1 := by rw [d3]; decide
  have hst : slotState (putSlot 0 0 1 0) = 0 := by rw [d1]; decide
  refine ⟨⟨?_, fun s hs => ?_, seqI_nd _ _, ?_, ?_, fun s h0 h1 _ => ?_, fun s o ho => (by cases ho), fun s s' o o' ho => (by cases ho), fun i h0 h1 => ?_, fun k h0 h1 => ?_, fun s h0 h1 => ?_⟩, fun b h0 h1 => vz b h1 (.inl h0)⟩
  · rw [e1, Mem.len_store, Mem.len_store]; exact q1
  · have hm := (seqI_mem _ _ _).1 hs
    rw [vs s hm.1 (by omega), hgen]
    exact ⟨⟨hm.1, by omega⟩, rfl, by omega, hg0⟩
  · rw [v, if_pos rfl, top_of 0 (by omega) (by omega)]
    show 0 = hdI (seqI 0 c.slots.toNat)
    rw [seqI_hd, if_neg (by omega)]
  · have key : ∀ (k : Nat) (i : Int), 0 ≤ i → i + k = c.slots → Chain c (freshMem c) (seqI i k) := by
      intro k
      induction k with
      | zero => intro i _ _; trivial
      | succ k ih =>
        intro i h0 h1
        refine ⟨?_, ih (i + 1) (by omega) (by omega)⟩
        rw [vl i h0 (by omega), seqI_hd]
        by_cases hk : k = 0
        · rw [if_pos (by omega), if_pos hk]; exact top_of 0 (by omega) (by omega)
        · rw [if_neg (by omega), if_neg hk]; exact top_of 0 (by omega) (by omega)
    exact key c.slots.toNat 0 (Int.le_refl _) (by omega)
  · left; rw [vs s h0 h1]; exact hst
  · obtain ⟨r1, r2, r3⟩ := hc.prod h0 (Int.le_of_lt h1)
    refine ⟨?_, fun x hx hx' => vz x (by omega) (.inr (by omega))⟩
    rw [vz _ (by omega) (.inr (by omega))]; decide
  · rw [vz _ (by omega) (.inl (by omega))]
    exact ⟨rfl, Int.le_refl _, (by show (0:Int) ≤ _; omega)⟩
  · rw [vs s h0 h1, hgen]; exact Int.le_refl _

omit hc in
theorem runAct_of_ends {Q : Mem → Mem → Prop} {who : Int} {n k : Nat} {a a' : Act} {m m' : Mem} (h : Ends (actStep c who) Q n a m a' m') (hk : n < k) : runAct c who k a m = (a', m') := by
  obtain ⟨a1, m1, h1, h2, h3⟩ := h
  clear h3
  induction h1 generalizing k with
  | refl a m0 =>
    obtain ⟨k, rfl⟩ : ∃ j, k = j + 1 := ⟨k - 1, by omega⟩
    simp only [runAct, h2, if_true]
  | step hs q r ih =>
    obtain ⟨k, rfl⟩ : ∃ j, k = j + 1 := ⟨k - 1, by omega⟩
    simp only [runAct, hs, Bool.false_eq_true, if_false]
    exact ih (k := k) (by omega) h2
/-- a list without keys in a fresh arena -/
theorem begun_ok : ∃ A m' d, doP c 0 ⟨1, 2, 0, 0, 0, 0, true⟩ (freshMem c) = (d, m') ∧ d.e = 0 ∧ RS c A 0 m' ∧ LI c A d.handle [] ∧ A.fs = seqI 1 (c.slots.toNat - 1) ∧ A.gb = 1 ∧
    (∀ q : Nat, q + 1 ≤ c.chunks.toNat * (c.words / 3).toNat → Room c A q) := by
  have ht := hc.t0; have hs0 := hc.s0; have hk0 := hc.k0; have hs1 := hc.s1; have hg1 := hc.g1
  obtain ⟨wf, hz⟩ := fresh_wf hc
  have rs : RS c (Ab0 c) 0 (freshMem c) := ⟨wf, by rw [hz 0 (by omega) (by omega)]; decide, hz _ (by omega) (by omega)⟩
  have cl : classOf 2 = 0 := by decide
  obtain ⟨n, a', m', A', hn, he, rs', hd⟩ := did_alloc hc (Int.le_refl _) (by omega) (A := Ab0 c) (own := true) (size := 2) 0 0 0 0 (freshMem c) rs
  have hdo : doP c 0 ⟨1, 2, 0, 0, 0, 0, true⟩ (freshMem c) = (a'.out, m') := by
    have : actCheck ⟨1, 2, 0, 0, 0, 0, true⟩ = true := by decide
    simp only [doP, this, if_true, runAct_of_ends he (by omega : n < 500)]
  have hfs : (Ab0 c).fs = 0 :: seqI 1 (c.slots.toNat - 1) := by
    obtain ⟨k, hk⟩ : ∃ k, c.slots.toNat = k + 1 := ⟨c.slots.toNat - 1, by omega⟩
    simp only [Ab0, hk, seqI, Nat.add_sub_cancel]; rfl
  rcases hd with ⟨h1, _⟩ | ⟨_, h2, _⟩ | ⟨_, _, _, _, h6, _⟩ | ⟨_, s, g, r, hm, h3, h4, h5⟩
  · rw [cl] at h1; omega
  · rw [hfs] at h2; cases h2
  · exact absurd rfl (h6 0 (Int.le_refl _) (by omega))
  · have e := hm.fs
    rw [hfs] at e
    simp only [List.cons.injEq] at e
    obtain ⟨rfl, rfl⟩ := e
    obtain ⟨ad, hob⟩ := hm.ob
    have hat := at_made (c := c) (A := Ab0 c) (A' := A') (vs := List.replicate (2 : Int).toNat 0) (Int.le_refl 0) (by omega) hs1 hm.g0 (by have := hm.g1; omega) rfl hob (0 + g * 65536)
    rw [if_pos rfl] at hat
    refine ⟨A', m', a'.out, hdo, h3, rs', ⟨⟨0, 0, by rw [h4]; exact nod_of hat rfl rfl, rfl⟩, by simp, List.Pairwise.nil⟩, hm.fs', hm.gb, fun q hq => ?_⟩
    have r0 : Room c (Ab0 c) (q + 1) := ⟨seqI 0 c.chunks.toNat, 0, seqI_nd _ _, fun i hi => by
      have := (seqI_mem _ _ _).1 hi
      exact ⟨this.1, by omega, rfl⟩, .inl rfl, by rw [seqI_len]; exact hq⟩
    exact r0.made hc hm
end
end Go.Fl
