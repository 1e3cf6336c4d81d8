/- The symbolic executor, part 18: a region that draws, over a table of what has been done: each set of operations once. -/
import Derived.Test.YtdkjpjiljplahaaGreatMb
import Derived.Test.YtdkjpjiljplahaaGreatMc
import Derived.KernelRfl
import Derived.Test.YtdkjpjiljplahaaGreatMj
namespace Go.Sx
open Go
set_option linter.unusedSimpArgs false
set_option linter.unusedVariables false

variable {U : Type} {S : Sig U} {n n' n0 : Env U} {P : Program} {T : Tab} {w w' : World} {a : Act} {o o' : Nat → Nat} {H : SH} {nx b0 : Nat} {st : St} {Q : Exit → Act → World → Prop} {ops : Array Oper} {call tmpl : CH} {hd : Held} {rounds depth : Nat} {f : FuncId}

structure Ent where
  m : Nat
  k : Nat
  st : St
  deriving DecidableEq

def entFind (tb : List Ent) (m : Nat) : Option Ent := tb.find? fun x => Nat.beq x.m m

/-- One operation leads to a place in the table. -/
def dpOne (T : Tab) (call : CH) (ops : Array Oper) (hd : Held) (b0 : Nat) (tb : List Ent) (e : Ent) (i : Nat) : Bool :=
  match ops[i]? with
  | none => false
  | some op =>
    match doOp T call ops op (inSt b0 i op e.st) with
    | some [(.norm, s)] =>
      match entFind tb (Nat.lor e.m (2 ^ i)) with
      | some t => decide (t.k + 1 = e.k) && decide (t.m = Nat.lor e.m (2 ^ i)) && decide ((outSt e.st.nx op (.norm, s)).2 = t.st) && heldOK hd t.st.H && decide (b0 ≤ t.st.nx)
      | none => false
    | _ => false

def dpAt (T : Tab) (call : CH) (ops : Array Oper) (d : List (Nat × Nat)) (hd : Held) (b0 : Nat) (tb : List Ent) (fin : St) (e : Ent) : Bool :=
  match readyM d e.m with
  | [] => decide (e.st = fin)
  | l =>
    match firstQuietM T ops hd e.st e.m l with
    | some (i, v) =>
      match entFind tb (Nat.lor e.m (2 ^ i)) with
      | some t => decide (t.k + 1 = e.k) && decide (t.m = Nat.lor e.m (2 ^ i)) && decide (t.st = { e.st with tm := putT e.st.tm ((ops[i]?).bind (·.dst)) v })
      | none => false
    | none => l.all (dpOne T call ops hd b0 tb e)

theorem entFind_mem {tb : List Ent} {m : Nat} {t : Ent} (h : entFind tb m = some t) : t ∈ tb := List.mem_of_find?_eq_some h

theorem dp_sound (hT : T.ok P) (hc : CallOK S P call) (hsel : Region.noSelect ops = true) (hl : hdlt b0 hd = true) {tb : List Ent} {fin : St}
    (hall : tb.all (dpAt T call ops (depsM ops) hd b0 tb fin) = true) :
    ∀ (k : Nat) (e : Ent) (listed : Array Bool) (n : Env U) (o : Nat → Nat) (w : World) (a : Act), e ∈ tb → e.k = k → ListedM ops listed e.m →
      Mt S n o e.st a w → Ext b0 n0 n → b0 ≤ e.st.nx → HW S n0 hd w → Good S Q n o w b0 (.norm, fin) → wpAnyH P .any ops (NP Q) (HW S n0 hd) k listed a w := by
  intro k
  induction k with
  | zero =>
    intro e listed n o w a he hk hlm hm hx hb hW hg
    have h := List.all_eq_true.1 hall e he
    unfold dpAt at h
    rw [readyM_eq hlm] at h
    split at h
    · rename_i hr
      simp only [decide_eq_true_eq] at h
      rw [h] at hm hb
      exact wpAnyH_done hr (NP.good hg n o a w (Ext.refl _ _) (Fr.refl _ _) hb hm) _
    · exfalso
      rename_i l hne
      split at h
      · split at h
        · simp only [Bool.and_eq_true, decide_eq_true_eq] at h
          omega
        · simp at h
      · have hex : ∃ i, i ∈ Region.ready .any ops listed := by
          cases hq : Region.ready .any ops listed with
          | nil => exact absurd hq (by simpa using hne)
          | cons i r => exact ⟨i, List.mem_cons_self ..⟩
        obtain ⟨i, hi⟩ := hex
        have h1 := List.all_eq_true.1 h i hi
        unfold dpOne at h1
        split at h1
        · simp at h1
        · split at h1
          · split at h1
            · simp only [Bool.and_eq_true, decide_eq_true_eq] at h1
              omega
            · simp at h1
          · simp at h1
  | succ k ih =>
    intro e listed n o w a he hk hlm hm hx hb hW hg
    have h := List.all_eq_true.1 hall e he
    have hlt : ∀ i ∈ Region.ready .any ops listed, i < ops.size := fun i hi => ready_lt hi
    unfold dpAt at h
    rw [readyM_eq hlm] at h
    split at h
    · rename_i hr
      simp only [decide_eq_true_eq] at h
      rw [h] at hm hb
      exact wpAnyH_done hr (NP.good hg n o a w (Ext.refl _ _) (Fr.refl _ _) hb hm) _
    · rename_i l hne
      have hne : Region.ready .any ops listed ≠ [] := by simpa using hne
      rw [firstQuietM_eq hlm _ hlt] at h
      split at h
      · rename_i i v hq
        obtain ⟨h1, h2, op, hop, hqx⟩ := firstQuiet_sound hq
        split at h
        · rename_i t ht
          simp only [Bool.and_eq_true, decide_eq_true_eq] at h
          obtain ⟨⟨h3, h4⟩, h5⟩ := h
          refine wpAnyH_take hop hsel h2 (by simpa using h1) (fun c a w hh => hh) (quietx_sound hT hm hx hl hqx) hW ?_
          rw [hop] at h5
          have hm' := hm.tm.put op.dst v
          refine ih t _ n o w _ (entFind_mem ht) (by omega) (by rw [h4]; exact hlm.put (hlt i (firstQuiet_mem hq))) ?_ hx (by rw [h5]; exact hb) hW hg
          rw [h5]
          exact ⟨hm', hm.sat, hm.pt⟩
        · simp at h
      · refine wpAnyH_all rfl hne fun i hi => ?_
        have h1 := List.all_eq_true.1 h i hi
        unfold dpOne at h1
        split at h1
        · simp at h1
        · rename_i op hop
          split at h1
          · rename_i s hl2
            split at h1
            · rename_i t ht
              simp only [Bool.and_eq_true, decide_eq_true_eq] at h1
              obtain ⟨⟨⟨⟨g1, g2⟩, g3⟩, g4⟩, g5⟩ := h1
              have hin : Mt S n o (inSt b0 i op e.st) a w := by
                unfold inSt
                split
                · exact ⟨hm.tm, hm.sat, hm.pt⟩
                · exact hm
              have hgood : ∀ x ∈ [((.norm, s) : Leaf)].map (outSt e.st.nx op), Good S (Exit.then (fun a' w' => HW S n0 hd w' ∧ wpAnyH P .any ops (NP Q) (HW S n0 hd) k (listed.setIfInBounds i true) a' w') (NP Q)) n o w b0 x := by
                intro x hxm
                rw [List.map_singleton, List.mem_singleton] at hxm
                have hx1 : x = (.norm, t.st) := by
                  rw [hxm, ← g3]
                  unfold outSt
                  split <;> rfl
                rw [hx1]
                intro n' o' a' w' e1 e2 e3 e4
                have hW' := (HW.of_ok e4.sat g4).unext (hx.trans e1 (Nat.le_refl _)) hl
                exact ⟨hW', ih t _ n' o' w' a' (entFind_mem ht) (by omega) (by rw [g2]; exact hlm.put (hlt i hi)) e4 (hx.trans e1 (Nat.le_refl _)) g5 hW' (hg.step e1 e2 (Nat.le_refl _))⟩
              have hgood2 : ∀ x ∈ [((.norm, s) : Leaf)], Good S (Exit.then (fun a' w' => HW S n0 hd w' ∧ wpAnyH P .any ops (NP Q) (HW S n0 hd) k (listed.setIfInBounds i true) a' w') (NP Q)) n o w (inSt b0 i op e.st).nx x := by
                intro x hxm
                have g := hgood _ (List.mem_map.2 ⟨x, hxm, rfl⟩)
                unfold outSt at g
                unfold inSt
                by_cases hmk : makes op.op = true
                · rw [if_pos hmk] at g ⊢
                  exact (Good.setnx g hb).mono (by simp)
                · rw [if_neg hmk] at g ⊢
                  exact g.mono hb
              have := doOp_sound hT hc hl2 hin hgood2
              unfold wpOp
              rw [hop]
              simp only
              split
              · rename_i hw; rw [if_pos hw] at this; exact .inl this
              · rename_i hw; rw [if_neg hw] at this; exact this
            · simp at h1
          · simp at h1

/-- The table is made; what is held is what the first way keeps. -/
def dpNext (T : Tab) (call : CH) (ops : Array Oper) (hd : Held) (b0 : Nat) (e : Ent) : List Ent :=
  match readyM (depsM ops) e.m with
  | [] => []
  | l =>
    match firstQuietM T ops hd e.st e.m l with
    | some (i, v) => [⟨Nat.lor e.m (2 ^ i), e.k - 1, { e.st with tm := putT e.st.tm ((ops[i]?).bind (·.dst)) v }⟩]
    | none => l.filterMap fun i =>
      match ops[i]? with
      | none => none
      | some op =>
        match doOp T call ops op (inSt b0 i op e.st) with
        | some [(.norm, s)] => some ⟨Nat.lor e.m (2 ^ i), e.k - 1, (outSt e.st.nx op (.norm, s)).2⟩
        | _ => none

/-- A table by its places: a way of a region's text, and what it comes to. -/
structure RegT where
  hd : Held
  tb : List Ent
  fin : St

def RegT.ok (T : Tab) (call : CH) (ops : Array Oper) (r : RegT) (st : St) : Bool :=
  Region.noSelect ops && heldOK r.hd st.H && r.hd.all (fun x => decide (x.1 < st.nx) && x.2.2.lt st.nx) &&
  r.tb.all (dpAt T call ops (depsM ops) r.hd st.nx r.tb r.fin) &&
  (match r.tb with | e :: _ => decide (e = ⟨0, ops.size, { st with nx := st.nx + ops.size }⟩) | [] => false)

theorem reg_sound (hT : T.ok P) (hc : CallOK S P call) {rid : Nat} {r : RegT} (h : r.ok T call ops st = true) (hm : Mt S n o st a w) (hg : Good S Q n o w st.nx (.norm, r.fin)) :
    (Code.region rid ops true).wp P Q a w := by
  unfold RegT.ok at h
  simp only [Bool.and_eq_true] at h
  obtain ⟨⟨⟨⟨h0, h1⟩, h2⟩, h3⟩, h4⟩ := h
  split at h4
  · rename_i e r0 htb
    simp only [decide_eq_true_eq] at h4
    refine Code.wp_mono NP.imp (wp_region_held (S := HW S n r.hd) hT.mixed ?_)
    have hm' : Mt S n o { st with nx := st.nx + ops.size } a { w with drawn := w.drawn + 1 } := ⟨hm.tm, hm.sat, hm.pt⟩
    have hd0 := dp_sound (S := S) (n0 := n) (Q := Q) (b0 := st.nx) hT hc h0 (by unfold hdlt; exact h2) h3 ops.size e (Array.replicate ops.size false) n o { w with drawn := w.drawn + 1 } a
      (by rw [htb]; exact List.mem_cons_self ..) (by rw [h4]) (by rw [h4]; exact ListedM.zero ops) (by rw [h4]; exact hm') (Ext.refl _ _) (by rw [h4]; exact Nat.le_add_right _ _) (HW.of_ok hm'.sat h1)
      (hg.step (Ext.refl _ _) (Fr.drew w o) (Nat.le_refl _))
    exact hd0
  · simp at h4

def dedupM : List Ent → List Ent
  | [] => []
  | e :: r => e :: (dedupM r).filter fun x => !(Nat.beq x.m e.m)
def dpLevels (T : Tab) (call : CH) (ops : Array Oper) (hd : Held) (b0 : Nat) : Nat → List Ent → List Ent
  | 0, _ => []
  | _ + 1, [] => []
  | k + 1, l => l ++ dpLevels T call ops hd b0 k (dedupM (l.flatMap (dpNext T call ops hd b0)))
def dpMake (T : Tab) (call : CH) (ops : Array Oper) (st : St) : RegT :=
  match execOps T call ops ops.toList st with
  | some [(.norm, s1)] =>
    let hd := heldOf st.H s1.H
    let tb := dpLevels T call ops hd st.nx (ops.size + 1) [⟨0, ops.size, { st with nx := st.nx + ops.size }⟩]
    ⟨hd, tb, ((tb.getLast?).map (·.st)).getD st⟩
  | _ => ⟨[], [], st⟩
def drawDP (T : Tab) (call : CH) (ops : Array Oper) (st : St) : Option (List Leaf) :=
  let r := dpMake T call ops st
  match r.ok T call ops st with
  | true => some [(.norm, r.fin)]
  | false => none

def execR (T : Tab) (call : CH) (rounds : Nat) : Code → St → Option (List Leaf)
  | .seq x y, st => obind (execR T call rounds x st) (execR T call rounds y)
  | .cond c x y, st =>
    match evx st.tm c with
    | some (.one (.c (.bool e))) =>
      match dec st.pa e with
      | some true => execR T call rounds x st
      | some false => execR T call rounds y st
      | none =>
        match dec ((base e, true) :: st.pa) e, dec ((base e, false) :: st.pa) e with
        | some true, some false =>
          match execR T call rounds x { st with pa := (base e, true) :: st.pa }, execR T call rounds y { st with pa := (base e, false) :: st.pa } with
          | some p, some q => some (p ++ q)
          | _, _ => none
        | some false, some true =>
          match execR T call rounds y { st with pa := (base e, true) :: st.pa }, execR T call rounds x { st with pa := (base e, false) :: st.pa } with
          | some p, some q => some (p ++ q)
          | _, _ => none
        | _, _ => none
    | _ => none
  | .block id b, st => (execR T call rounds b st).map fun l => l.map (unblock id)
  | .region rid ops true, st =>
    match drawDP T call ops st with
    | some ls => some ls
    | none => exec T call rounds (.region rid ops true) st
  | c, st => exec T call rounds c st

theorem execR_sound (hT : T.ok P) (hc : CallOK S P call) (rounds : Nat) : ∀ (c : Code) (Q : Exit → Act → World → Prop) (st : St) (ls : List Leaf) (n : Env U) (o : Nat → Nat) (w : World) (a : Act),
    execR T call rounds c st = some ls → Mt S n o st a w → (∀ x ∈ ls, Good S Q n o w st.nx x) → c.wp P Q a w := by
  intro c
  induction c with
  | seq x y ihx ihy =>
    intro Q st ls n o w a h hm hg
    simp only [execR, obind] at h
    split at h
    · rename_i l hl
      exact wp_seq (ihx _ st l n o w a hl hm (Good.bind h hg fun st' ls' n' o' w' a' h1 h2 h3 => ihy Q st' ls' n' o' w' a' h1 h2 h3))
    · simp at h
  | cond c x y ihx ihy =>
    intro Q st ls n o w a h hm hg
    simp only [execR] at h
    split at h
    · rename_i e he
      have hev := evx_sound hm.tm he
      simp only [SV.den, S2.den, S1.den] at hev
      split at h
      · rename_i hd
        rw [dec_sound hm.pt hd] at hev
        exact wp_cond_true hev (ihx Q st ls n o w a h hm hg)
      · rename_i hd
        rw [dec_sound hm.pt hd] at hev
        exact wp_cond_false hev (ihy Q st ls n o w a h hm hg)
      · have pt : ∀ b, ((base e).den S n.v).toBool = b → PT S n.v ((base e, b) :: st.pa) := fun b hb q hq => by
          rcases List.mem_cons.1 hq with rfl | hq
          · exact hb
          · exact hm.pt q hq
        split at h
        · rename_i h1 h2
          split at h
          · rename_i p q hp hq
            simp at h; subst h
            cases hb : ((base e).den S n.v).toBool with
            | true =>
              rw [dec_sound (pt _ hb) h1] at hev
              exact wp_cond_true hev (ihx Q _ p n o w a hp ⟨hm.tm, hm.sat, pt _ hb⟩ fun z hz => hg z (List.mem_append_left _ hz))
            | false =>
              rw [dec_sound (pt _ hb) h2] at hev
              exact wp_cond_false hev (ihy Q _ q n o w a hq ⟨hm.tm, hm.sat, pt _ hb⟩ fun z hz => hg z (List.mem_append_right _ hz))
          · simp at h
        · rename_i h1 h2
          split at h
          · rename_i p q hp hq
            simp at h; subst h
            cases hb : ((base e).den S n.v).toBool with
            | true =>
              rw [dec_sound (pt _ hb) h1] at hev
              exact wp_cond_false hev (ihy Q _ p n o w a hp ⟨hm.tm, hm.sat, pt _ hb⟩ fun z hz => hg z (List.mem_append_left _ hz))
            | false =>
              rw [dec_sound (pt _ hb) h2] at hev
              exact wp_cond_true hev (ihx Q _ q n o w a hq ⟨hm.tm, hm.sat, pt _ hb⟩ fun z hz => hg z (List.mem_append_right _ hz))
          · simp at h
        · simp at h
    · simp at h
  | block bid body ih =>
    intro Q st ls n o w a h hm hg
    simp only [execR, Option.map_eq_some_iff] at h
    obtain ⟨l, hl, rfl⟩ := h
    refine wp_block (ih _ st l n o w a hl hm fun x hx => ?_)
    have g := hg _ (List.mem_map.2 ⟨x, hx, rfl⟩)
    obtain ⟨out, s⟩ := x
    unfold unblock at g
    cases out with
    | exit i =>
      by_cases hi : i = bid
      · subst hi
        simp only [if_true] at g
        intro n' o' a' w' e1 e2 e3 e4
        show Exit.inBlock i Q (.exit i) a' w'
        simp only [Exit.inBlock, if_true]
        exact g n' o' a' w' e1 e2 e3 e4
      · have : (Out.exit i = Out.exit bid) = False := by simp [hi]
        simp only [this, if_false] at g
        intro n' o' a' w' e1 e2 e3 e4
        show Exit.inBlock bid Q (.exit i) a' w'
        simp only [Exit.inBlock, hi, if_false]
        exact g n' o' a' w' e1 e2 e3 e4
    | _ => exact g
  | region rid ops draw =>
    intro Q st ls n o w a h hm hg
    cases draw with
    | false => exact exec_sound hT hc rounds _ Q st ls n o w a (by simpa only [execR] using h) hm hg
    | true =>
      simp only [execR] at h
      split at h
      · rename_i ls' hd
        simp only [Option.some.injEq] at h
        subst h
        unfold drawDP at hd
        simp only at hd
        split at hd
        · rename_i hr
          simp only [Option.some.injEq] at hd
          subst hd
          exact reg_sound hT hc hr hm (hg _ (List.mem_singleton.2 rfl))
        · simp at hd
      · exact exec_sound hT hc rounds _ Q st ls n o w a h hm hg
  | _ => intro Q st ls n o w a h hm hg; exact exec_sound hT hc rounds _ Q st ls n o w a (by simpa only [execR] using h) hm hg

/-- A call of a function with such loops. -/
def callR (T : Tab) (tmpl : CH) (rounds depth : Nat) (f : FuncId) : List SV → SH → Nat → Path → Option (List CO) := fun args H nx pa =>
  match T.fi f with
  | some i =>
    match execR T (callX T tmpl rounds depth) rounds i.body ⟨args ++ List.replicate (i.ntmps - args.length) SV.undef, H, nx, pa⟩ with
    | some ls => outx T nx i.results ls
    | none => none
  | none => none

theorem callR_at (hT : T.ok P) (htm : CallOK S P tmpl) : CallAt S P f (callR T tmpl rounds depth f) := by
  intro args H nx pa cs h n o w hp hs hfail
  simp only [callR] at h
  split at h
  case h_2 => simp at h
  rename_i i hi
  split at h
  case h_2 => simp at h
  rename_i ls hls
  obtain ⟨fn, hf, _, hb, hnt, hres⟩ := hT.fi f i hi
  refine calls_of_wp hf hb ?_
  have hm : Mt S n o ⟨args ++ List.replicate (i.ntmps - args.length) SV.undef, H, nx, pa⟩
      { tmps := (args.map (SV.den S n)).toArray ++ Array.replicate (fn.ntmps - (args.map (SV.den S n)).toArray.size) undef, defers := [] } w := by
    refine ⟨Tm.of_map ?_ rfl, hs, hp⟩
    rw [hnt]
    apply Array.ext'
    simp [SV.den, SV.undef, undef]
  refine execR_sound hT (callX_sound hT htm rounds depth) rounds _ _ _ ls n o w _ hls hm fun x hx => ?_
  obtain ⟨h1, h2, h3⟩ := outx_mem h x hx
  obtain ⟨out, s⟩ := x
  have fin : (out = .norm ∨ out = .ret) → ∀ n' o' a' w', Ext nx n n' → Fr w o w' o' → nx ≤ s.nx → Mt S n' o' s a' w' →
      a'.defers = [] ∧ ∃ v, (results fn a'.tmps).run P w' = .ok v w' ∧ ∃ c ∈ cs, c.ok = true ∧ PT S n.v c.pa ∧
      ∃ n' o', Ending.returned v = .returned (c.ret.den S n') ∧ Sat S n' o' w'.heap c.H ∧ Fr w o w' o' ∧ Ext nx n n' ∧ nx ≤ c.nx := by
    intro hout n' o' a' w' e1 e2 e3 e4
    obtain ⟨v, hv, hcm⟩ := h2 hout
    refine ⟨e4.tm.2, v.den S n', retx_sound hT e4.tm e4.sat (by rw [hres]; exact hv), _, hcm, rfl, by have := e4.pt; rw [e1.v] at this; exact this, n', o', rfl, fun p hp => e4.sat p (gc_sub _ _ _ p hp), e2, e1, e3⟩
  cases out with
  | norm => exact fun n' o' a' w' e1 e2 e3 e4 => fin (.inl rfl) n' o' a' w' e1 e2 e3 e4
  | ret => exact fun n' o' a' w' e1 e2 e3 e4 => fin (.inr rfl) n' o' a' w' e1 e2 e3 e4
  | exit j => exact absurd rfl (h3 j)
  | fail =>
    obtain ⟨c, hcm, hok, hpa⟩ := h1 rfl
    have := hfail c hcm hok
    rw [hpa] at this
    exact this

end Go.Sx

/- What the statements' first checks come to, in plain Lean. -/
namespace Go.Fl
open Go Go.Sx
set_option maxRecDepth 100000

/-- an arena with a list without keys: its words, and where the list begins -/
def begunD (slots : Int) : Done × Mem := doP (cfgA 4 slots 12 40) 0 ⟨1, 2, 0, 0, 0, 0, true⟩ (freshMem (cfgA 4 slots 12 40))
def askA (slots : Int) (kind key : Int) (h : Int) (x : Done × Mem) : Done × Mem := askP (cfgA 4 slots 12 40) 0 h kind key x.2
def awakeP : Bool :=
  let d := begunD 8
  let h := d.1.handle
  let a := askA 8 2 5 h d
  let b := askA 8 1 5 h a
  let c := askA 8 3 5 h b
  let e := askA 8 1 5 h c
  d.1.e == 0 && (a.1.value == 1 && b.1.value == 1 && c.1.value == 1 && e.1.value == 0 && e.1.e == 0)
theorem awakeP_true : awakeP = true := by kernel_rfl
end Go.Fl

/- Templates, level 12: an arena, a list in it. -/
namespace Go.Fl
open Go Go.Sx Go.Proofs
variable [ExtF]

/-- the shape, of seven numbers -/
def mkC (a b c d e f g : E) : E := .f4 60 (.f4 50 a b c d) e f g
def cfgI : SV := .one (.agg [xi 0, xi 1, xi 2, xi 3, xi 4, xi 5, xi 6])
def sC : Nat → E := fun j => match j with | 0 => mkC (.var 0) (.var 1) (.var 2) (.var 3) (.var 4) (.var 5) (.var 6) | j => .var j
def tFreshI : Tmpl := ⟨[cfgI], [], gFresh.t.nx, gFresh.t.outs.map fun c => ⟨c.ok, c.ret.sub sC id, c.H.sub sC id, c.nx, c.pa.sub sC⟩⟩
theorem tFreshI_ok : tFreshI.ok SG prog 141 := Tmpl.recast gFresh_ok sC [cfgI] rfl fun _ => rfl

def tl11 : List (Nat × Tmpl) := (105, gDo.t) :: (38, gAsk.t) :: (141, gFresh.t) :: (141, tFreshI) :: tl9
theorem tl11_ok : AllT tl11 := allT_cons gDo_ok <| allT_cons gAsk_ok <| allT_cons gFresh_ok <| allT_cons tFreshI_ok tl9_ok
def tm11 : CH := tmOf tl11
theorem tm11_ok : CallOK SG prog tm11 := tmOf_ok tl11_ok

/-- the arenas of the statements -/
def aC (t s k w : E) : E := mkC t s k w (.int 100) (.int 600) (.int 3)
def envR (c : E) (r : Nat) : S2 := .agg (cfgE c ++ [.ptr r (.int 0), .int .i64 (.int 0)])
def gArena : GSpec := ⟨[iE v0, iE v1, iE v2, iE v3], [], 1, [⟨.tup [envR (aC v0 v1 v2 v3) 9, .c (.bool (.bool true))], none, [(9, .res 0 (.f1 93 (aC v0 v1 v2 v3)))], 10, []⟩], [[(.f1 92 (aC v0 v1 v2 v3), false)]]⟩
end Go.Fl

/- Templates, level 12, shown. -/
namespace Go.Fl
open Go Go.Sx Go.Proofs
variable [ExtF]
set_option linter.unusedSimpArgs false
set_option maxRecDepth 100000
set_option maxHeartbeats 2000000

abbrev z120 : E := .f4 60 (.f4 50 (.var 0) (.var 1) (.var 2) (.var 3)) (.int 100) (.int 600) (.int 3)
theorem gArena_ok : gArena.t.ok SG prog 57 := by
  refine GSpec.ok (callX_at (rounds := 20) (depth := 20) tab_ok tm11_ok) gArena (by kernel_rfl) ⟨[⟨true, .tup [.agg [xi 0, xi 1, xi 2, xi 3, .int .i64 (.int 100), .int .i64 (.int 600), .int .i64 (.int 3), .nilp, .int .i64 (.int 0)], .c (.bool (.bool false))], [], 5, [((.f1 92 z120), false)]⟩,
    ⟨true, .tup [.agg [xi 0, xi 1, xi 2, xi 3, .int .i64 (.int 100), .int .i64 (.int 600), .int .i64 (.int 3), .ptr 9 (.int 0), .int .i64 (.int 0)], .c (.bool (.bool true))], [(9, .res 0 (.f1 93 z120))], 10, [((.f1 92 z120), true)]⟩], by as_aux_lemma => kernel_rfl,
    allC_cons (gNo ?_) <|
    allC_cons (gWM 0 rfl rfl rfl rfl rfl ?_) <|
    allC_nil _⟩
  all_goals
    intro n hp hq
    have hq := hq _ (.head _)
    simp only [pt_nil, pt_cons, E.den, gArena, okR, okM, noR, val, cfgV, v0, v1, v2, v3, mkC, aC, envR, doneA, actE, doE, askE, runE, ev3, envV, cfgE, sg_f1, sg_f2, sg_f3, sg_f4, f1_0, f1_1, f1_2, f1_3, f1_4, f1_5, f1_6, f1_92, f1_93, f4_50, f4_60, O1.ap, O3.ap, ap_arith, ap_bits, ap_div, ap_shift, ap_eql, ap_lss, ap_beq, ap_min, ap_max, ap_nthI, ap_nthB, ap_inI, ap_inB, G.toInt_int, G.toBool_bool, G.toInts_ints, ltI_t, ltI_f, inN_t, inN_f, and_true, Nat.zero_add, Nat.reduceAdd, arith_add, arith_sub, arith_mul, i64, u64, cas_by, openAt, pinAt, Bool.not_eq_true', Bool.not_eq_false', beq_iff_eq, beq_eq_false_iff_ne, ne_eq] at hq
    simp only [pt_nil, pt_cons, E.den, gArena, okR, okM, noR, val, cfgV, v0, v1, v2, v3, mkC, aC, envR, doneA, actE, doE, askE, runE, ev3, envV, cfgE, sg_f1, sg_f2, sg_f3, sg_f4, f1_0, f1_1, f1_2, f1_3, f1_4, f1_5, f1_6, f1_92, f1_93, f4_50, f4_60, O1.ap, O3.ap, ap_arith, ap_bits, ap_div, ap_shift, ap_eql, ap_lss, ap_beq, ap_min, ap_max, ap_nthI, ap_nthB, ap_inI, ap_inB, G.toInt_int, G.toBool_bool, G.toInts_ints, ltI_t, ltI_f, inN_t, inN_f, and_true, Nat.zero_add, Nat.reduceAdd, arith_add, arith_sub, arith_mul, i64, u64, cas_by, openAt, pinAt, Bool.not_eq_true', Bool.not_eq_false', beq_iff_eq, beq_eq_false_iff_ne, ne_eq] at hp
    first
    | (exfalso; simp at hp; done)
    | exact ⟨(pt_nil n.v).2 trivial, rfl, rfl⟩
    | (simp only [gArena, okR, okM, noR, val, cfgV, v0, v1, v2, v3, mkC, aC, envR, doneA, actE, doE, askE, runE, ev3, envV, cfgE, xi, xu, xb, SV.den, S2.den, S1.den, cellsDen, List.map, iE, uE, bE, E.den, pt_nil, pt_cons, sg_f1, sg_f2, sg_f3, sg_f4, f1_0, f1_1, f1_2, f1_3, f1_4, f1_5, f1_6, f1_92, f1_93, f4_50, f4_60, O1.ap, O3.ap, ap_arith, ap_bits, ap_div, ap_shift, ap_eql, ap_lss, ap_beq, ap_min, ap_max, ap_nthI, ap_nthB, ap_inI, ap_inB, G.toInt_int, G.toBool_bool, G.toInts_ints, ltI_t, ltI_f, inN_t, inN_f, and_true, Nat.zero_add, Nat.reduceAdd, arith_add, arith_sub, arith_mul, i64, u64, cas_by, openAt, pinAt, gplace_u, ggive_u, ghelp_u, galloc_u, gdrop_u, gaccess_u, gact_u, glst_u, gmem_u, gcfg_u, gquad_u, gactx_u, gcw_u, gdm_u, gdm_p, gam_u, gam_p, glm_u, glm_p, hp, reduceIte, if_true, if_false, not_true, not_false_iff, Classical.not_not, true_and, and_true, false_and, and_false, true_or, or_true, false_or, or_false, Bool.not_true, Bool.not_false, Bool.and_true, Bool.and_false, Bool.false_and, Bool.true_and, decide_true, decide_false, Int.reduceEq, Bool.false_eq_true, Bool.true_eq_false]; done)
    | (simp only [gArena, okR, okM, noR, val, cfgV, v0, v1, v2, v3, mkC, aC, envR, doneA, actE, doE, askE, runE, ev3, envV, cfgE, xi, xu, xb, SV.den, S2.den, S1.den, cellsDen, List.map, iE, uE, bE, E.den, pt_nil, pt_cons, sg_f1, sg_f2, sg_f3, sg_f4, f1_0, f1_1, f1_2, f1_3, f1_4, f1_5, f1_6, f1_92, f1_93, f4_50, f4_60, O1.ap, O3.ap, ap_arith, ap_bits, ap_div, ap_shift, ap_eql, ap_lss, ap_beq, ap_min, ap_max, ap_nthI, ap_nthB, ap_inI, ap_inB, G.toInt_int, G.toBool_bool, G.toInts_ints, ltI_t, ltI_f, inN_t, inN_f, and_true, Nat.zero_add, Nat.reduceAdd, arith_add, arith_sub, arith_mul, i64, u64, cas_by, openAt, pinAt, gplace_u, ggive_u, ghelp_u, galloc_u, gdrop_u, gaccess_u, gact_u, glst_u, gmem_u, gcfg_u, gquad_u, gactx_u, gcw_u, gdm_u, gdm_p, gam_u, gam_p, glm_u, glm_p]; simp [hp]; done)
    | (simp only [gArena, okR, okM, noR, val, cfgV, v0, v1, v2, v3, mkC, aC, envR, doneA, actE, doE, askE, runE, ev3, envV, cfgE, xi, xu, xb, SV.den, S2.den, S1.den, cellsDen, List.map, iE, uE, bE, E.den, pt_nil, pt_cons, sg_f1, sg_f2, sg_f3, sg_f4, f1_0, f1_1, f1_2, f1_3, f1_4, f1_5, f1_6, f1_92, f1_93, f4_50, f4_60, O1.ap, O3.ap, ap_arith, ap_bits, ap_div, ap_shift, ap_eql, ap_lss, ap_beq, ap_min, ap_max, ap_nthI, ap_nthB, ap_inI, ap_inB, G.toInt_int, G.toBool_bool, G.toInts_ints, ltI_t, ltI_f, inN_t, inN_f, and_true, Nat.zero_add, Nat.reduceAdd, arith_add, arith_sub, arith_mul, i64, u64, cas_by, openAt, pinAt, gplace_u, ggive_u, ghelp_u, galloc_u, gdrop_u, gaccess_u, gact_u, glst_u, gmem_u, gcfg_u, gquad_u, gactx_u, gcw_u, gdm_u, gdm_p, gam_u, gam_p, glm_u, glm_p]; simp_all; done)
    | (exfalso; simp_all; done)
    | (exfalso; omega)
    | skip

end Go.Fl

/- Templates, level 13: a list at the beginning; the first check. -/
namespace Go.Fl
open Go Go.Sx Go.Proofs
variable [ExtF]

def tl12 : List (Nat × Tmpl) := (57, gArena.t) :: tl11
theorem tl12_ok : AllT tl12 := allT_cons gArena_ok tl11_ok
def tm12 : CH := tmOf tl12
theorem tm12_ok : CallOK SG prog tm12 := tmOf_ok tl12_ok

def act0 : E := .f4 51 (.f4 50 (.int 1) (.int 2) (.int 0) (.int 0)) (.int 0) (.int 0) (.bool true)
/-- a list without keys in an arena: the act that made it -/
def begE (c : E) : E := .f3 62 (.f2 60 c (.int 0)) act0 (.f1 93 c)
def c16 (s : E) : E := aC (.int 4) s (.int 12) (.int 40)
def gBegun : GSpec := ⟨[iE v0], [], 1,
  [⟨.tup [envR (c16 v0) 10, .c (.int .u64 (.f1 101 (begE (c16 v0)))), .c (.bool (.o2 .eql (.f1 100 (begE (c16 v0))) (.int 0)))], none, [(10, .res 0 (.f1 104 (begE (c16 v0))))], 11, []⟩],
  [[(.f1 92 (c16 v0), false)]]⟩
end Go.Fl

/- Templates, level 13, shown. -/
namespace Go.Fl
open Go Go.Sx Go.Proofs
variable [ExtF]
set_option linter.unusedSimpArgs false
set_option maxRecDepth 100000
set_option maxHeartbeats 2000000

abbrev z130 : E := .f4 60 (.f4 50 (.int 4) (.var 0) (.int 12) (.int 40)) (.int 100) (.int 600) (.int 3)
abbrev z131 : E := .f3 62 (.f2 60 z130 (.int 0)) (.f4 51 (.f4 50 (.int 1) (.int 2) (.int 0) (.int 0)) (.int 0) (.int 0) (.bool true)) (.f1 93 z130)
theorem gBegun_ok : gBegun.t.ok SG prog 34 := by
  refine GSpec.ok (callX_at (rounds := 20) (depth := 20) tab_ok tm12_ok) gBegun (by kernel_rfl) ⟨[⟨true, .tup [.agg [.int .i64 (.f1 0 z130), .int .i64 (.f1 1 z130), .int .i64 (.f1 2 z130), .int .i64 (.f1 3 z130), .int .i64 (.f1 4 z130), .int .i64 (.f1 5 z130), .int .i64 (.f1 6 z130), .ptr 10 (.int 0), .int .i64 (.int 0)], .c (.int .u64 (.f1 101 z131)), .c (.bool (.o2 .eql (.f1 100 z131) (.int 0)))], [(10, .res 0 (.f1 104 z131))], 24, []⟩,
    ⟨false, .tup [], [], 0, [((.f1 92 z130), false)]⟩], by as_aux_lemma => kernel_rfl,
    allC_cons (gWM 0 rfl rfl rfl rfl rfl ?_) <|
    allC_cons (gNo ?_) <|
    allC_nil _⟩
  all_goals
    intro n hp hq
    have hq := hq _ (.head _)
    simp only [pt_nil, pt_cons, E.den, gBegun, okR, okM, noR, val, cfgV, v0, v1, v2, v3, mkC, aC, c16, begE, act0, envR, doneA, actE, doE, askE, runE, ev3, envV, cfgE, sg_f1, sg_f2, sg_f3, sg_f4, f1_0, f1_1, f1_2, f1_3, f1_4, f1_5, f1_6, f1_92, f1_93, f1_100, f1_101, f1_104, f2_60, f3_62, f4_51, f4_50, f4_60, O1.ap, O3.ap, ap_arith, ap_bits, ap_div, ap_shift, ap_eql, ap_lss, ap_beq, ap_min, ap_max, ap_nthI, ap_nthB, ap_inI, ap_inB, G.toInt_int, G.toBool_bool, G.toInts_ints, ltI_t, ltI_f, inN_t, inN_f, and_true, Nat.zero_add, Nat.reduceAdd, arith_add, arith_sub, arith_mul, i64, u64, cas_by, openAt, pinAt, Bool.not_eq_true', Bool.not_eq_false', beq_iff_eq, beq_eq_false_iff_ne, ne_eq] at hq
    simp only [pt_nil, pt_cons, E.den, gBegun, okR, okM, noR, val, cfgV, v0, v1, v2, v3, mkC, aC, c16, begE, act0, envR, doneA, actE, doE, askE, runE, ev3, envV, cfgE, sg_f1, sg_f2, sg_f3, sg_f4, f1_0, f1_1, f1_2, f1_3, f1_4, f1_5, f1_6, f1_92, f1_93, f1_100, f1_101, f1_104, f2_60, f3_62, f4_51, f4_50, f4_60, O1.ap, O3.ap, ap_arith, ap_bits, ap_div, ap_shift, ap_eql, ap_lss, ap_beq, ap_min, ap_max, ap_nthI, ap_nthB, ap_inI, ap_inB, G.toInt_int, G.toBool_bool, G.toInts_ints, ltI_t, ltI_f, inN_t, inN_f, and_true, Nat.zero_add, Nat.reduceAdd, arith_add, arith_sub, arith_mul, i64, u64, cas_by, openAt, pinAt, Bool.not_eq_true', Bool.not_eq_false', beq_iff_eq, beq_eq_false_iff_ne, ne_eq] at hp
    first
    | (exfalso; simp at hp; done)
    | exact ⟨(pt_nil n.v).2 trivial, rfl, rfl⟩
    | (simp only [gBegun, okR, okM, noR, val, cfgV, v0, v1, v2, v3, mkC, aC, c16, begE, act0, envR, doneA, actE, doE, askE, runE, ev3, envV, cfgE, xi, xu, xb, SV.den, S2.den, S1.den, cellsDen, List.map, iE, uE, bE, E.den, pt_nil, pt_cons, sg_f1, sg_f2, sg_f3, sg_f4, f1_0, f1_1, f1_2, f1_3, f1_4, f1_5, f1_6, f1_92, f1_93, f1_100, f1_101, f1_104, f2_60, f3_62, f4_51, f4_50, f4_60, O1.ap, O3.ap, ap_arith, ap_bits, ap_div, ap_shift, ap_eql, ap_lss, ap_beq, ap_min, ap_max, ap_nthI, ap_nthB, ap_inI, ap_inB, G.toInt_int, G.toBool_bool, G.toInts_ints, ltI_t, ltI_f, inN_t, inN_f, and_true, Nat.zero_add, Nat.reduceAdd, arith_add, arith_sub, arith_mul, i64, u64, cas_by, openAt, pinAt, gplace_u, ggive_u, ghelp_u, galloc_u, gdrop_u, gaccess_u, gact_u, glst_u, gmem_u, gcfg_u, gquad_u, gactx_u, gcw_u, gdm_u, gdm_p, gam_u, gam_p, glm_u, glm_p, hp, reduceIte, if_true, if_false, not_true, not_false_iff, Classical.not_not, true_and, and_true, false_and, and_false, true_or, or_true, false_or, or_false, Bool.not_true, Bool.not_false, Bool.and_true, Bool.and_false, Bool.false_and, Bool.true_and, decide_true, decide_false, Int.reduceEq, Bool.false_eq_true, Bool.true_eq_false]; done)
    | (simp only [gBegun, okR, okM, noR, val, cfgV, v0, v1, v2, v3, mkC, aC, c16, begE, act0, envR, doneA, actE, doE, askE, runE, ev3, envV, cfgE, xi, xu, xb, SV.den, S2.den, S1.den, cellsDen, List.map, iE, uE, bE, E.den, pt_nil, pt_cons, sg_f1, sg_f2, sg_f3, sg_f4, f1_0, f1_1, f1_2, f1_3, f1_4, f1_5, f1_6, f1_92, f1_93, f1_100, f1_101, f1_104, f2_60, f3_62, f4_51, f4_50, f4_60, O1.ap, O3.ap, ap_arith, ap_bits, ap_div, ap_shift, ap_eql, ap_lss, ap_beq, ap_min, ap_max, ap_nthI, ap_nthB, ap_inI, ap_inB, G.toInt_int, G.toBool_bool, G.toInts_ints, ltI_t, ltI_f, inN_t, inN_f, and_true, Nat.zero_add, Nat.reduceAdd, arith_add, arith_sub, arith_mul, i64, u64, cas_by, openAt, pinAt, gplace_u, ggive_u, ghelp_u, galloc_u, gdrop_u, gaccess_u, gact_u, glst_u, gmem_u, gcfg_u, gquad_u, gactx_u, gcw_u, gdm_u, gdm_p, gam_u, gam_p, glm_u, glm_p]; simp [hp]; done)
    | (simp only [gBegun, okR, okM, noR, val, cfgV, v0, v1, v2, v3, mkC, aC, c16, begE, act0, envR, doneA, actE, doE, askE, runE, ev3, envV, cfgE, xi, xu, xb, SV.den, S2.den, S1.den, cellsDen, List.map, iE, uE, bE, E.den, pt_nil, pt_cons, sg_f1, sg_f2, sg_f3, sg_f4, f1_0, f1_1, f1_2, f1_3, f1_4, f1_5, f1_6, f1_92, f1_93, f1_100, f1_101, f1_104, f2_60, f3_62, f4_51, f4_50, f4_60, O1.ap, O3.ap, ap_arith, ap_bits, ap_div, ap_shift, ap_eql, ap_lss, ap_beq, ap_min, ap_max, ap_nthI, ap_nthB, ap_inI, ap_inB, G.toInt_int, G.toBool_bool, G.toInts_ints, ltI_t, ltI_f, inN_t, inN_f, and_true, Nat.zero_add, Nat.reduceAdd, arith_add, arith_sub, arith_mul, i64, u64, cas_by, openAt, pinAt, gplace_u, ggive_u, ghelp_u, galloc_u, gdrop_u, gaccess_u, gact_u, glst_u, gmem_u, gcfg_u, gquad_u, gactx_u, gcw_u, gdm_u, gdm_p, gam_u, gam_p, glm_u, glm_p]; simp_all; done)
    | (exfalso; simp_all; done)
    | (exfalso; omega)
    | skip

end Go.Fl

/- Templates, level 14: the first check. -/
namespace Go.Fl
open Go Go.Sx Go.Proofs
variable [ExtF]

def tl13 : List (Nat × Tmpl) := (34, gBegun.t) :: tl12
theorem tl13_ok : AllT tl13 := allT_cons gBegun_ok tl12_ok
def tm13 : CH := tmOf tl13
theorem tm13_ok : CallOK SG prog tm13 := tmOf_ok tl13_ok
def gAwake : GSpec := ⟨[], [], 1, [val (bE (.bool true))], []⟩
end Go.Fl

/- Templates, level 14, shown. -/
namespace Go.Fl
open Go Go.Sx Go.Proofs
variable [ExtF]
set_option linter.unusedSimpArgs false
set_option maxRecDepth 100000
set_option maxHeartbeats 2000000

abbrev z140 : E := .f4 60 (.f4 50 (.int 4) (.int 8) (.int 12) (.int 40)) (.int 100) (.int 600) (.int 3)
abbrev z141 : E := .f2 60 z140 (.int 0)
abbrev z142 : E := .f3 62 z141 (.f4 51 (.f4 50 (.int 1) (.int 2) (.int 0) (.int 0)) (.int 0) (.int 0) (.bool true)) (.f1 93 z140)
abbrev z143 : E := .f4 50 (.f1 101 z142) (.int 1) (.int 5) (.int 0)
abbrev z144 : E := .f3 63 z141 (.f4 50 (.f1 101 z142) (.int 2) (.int 5) (.int 0)) (.f1 104 z142)
abbrev z145 : E := .f3 63 z141 z143 (.f1 104 z144)
abbrev z146 : E := .f3 63 z141 (.f4 50 (.f1 101 z142) (.int 3) (.int 5) (.int 0)) (.f1 104 z145)
abbrev z147 : E := .f3 63 z141 z143 (.f1 104 z146)
abbrev z148 : E := .o2 .eql (.f1 102 z147) (.int 0)
abbrev z149 : E := .o2 .eql (.f1 102 z146) (.int 1)
abbrev z1410 : E := .o2 .eql (.f1 102 z145) (.int 1)
abbrev z1411 : E := .o2 .eql (.f1 102 z144) (.int 1)
abbrev z1412 : E := .o2 .eql (.f1 100 z142) (.int 0)
abbrev z14p13 : Path := (z1411, true) :: [(z1412, true)]
abbrev z14p14 : Path := (z1410, true) :: z14p13
abbrev z14p15 : Path := (z149, true) :: z14p14
theorem gAwake_ok : gAwake.t.ok SG prog 30 := by
  refine GSpec.ok (callR_at (rounds := 20) (depth := 20) tab_ok tm13_ok) gAwake (by kernel_rfl) ⟨[⟨true, .one (.c (.bool (.o2 .eql (.f1 100 z147) (.int 0)))), [], 32, (z148, true) :: z14p15⟩,
    ⟨true, .one (.c (.bool (.bool false))), [], 32, (z148, false) :: z14p15⟩,
    ⟨true, .one (.c (.bool (.bool false))), [], 32, (z149, false) :: z14p14⟩,
    ⟨true, .one (.c (.bool (.bool false))), [], 32, (z1410, false) :: z14p13⟩,
    ⟨true, .one (.c (.bool (.bool false))), [], 32, [(z1411, false), (z1412, true)]⟩,
    ⟨true, .one (.c (.bool (.bool false))), [], 12, [(z1412, false)]⟩,
    ⟨false, .tup [], [], 0, [((.f1 92 z140), false)]⟩], by as_aux_lemma => kernel_rfl,
    allC_cons (gW 0 rfl rfl rfl rfl fun _ _ _ => ⟨(pt_nil _).2 trivial, by as_aux_lemma => kernel_rfl⟩) <|
    allC_cons (gBad 0 rfl fun _ => by as_aux_lemma => kernel_rfl) <|
    allC_cons (gBad 0 rfl fun _ => by as_aux_lemma => kernel_rfl) <|
    allC_cons (gBad 0 rfl fun _ => by as_aux_lemma => kernel_rfl) <|
    allC_cons (gBad 0 rfl fun _ => by as_aux_lemma => kernel_rfl) <|
    allC_cons (gBad 0 rfl fun _ => by as_aux_lemma => kernel_rfl) <|
    allC_cons (gBad 0 rfl fun _ => by as_aux_lemma => kernel_rfl) <|
    allC_nil _⟩
  all_goals
    intro n hp hq
    simp only [pt_nil, pt_cons, E.den, gAwake, val, sg_f1, sg_f2, sg_f3, sg_f4, f1_92, f1_93, f1_100, f1_101, f1_102, f1_104, f2_60, f3_62, f3_63, f4_51, f4_50, f4_60, O1.ap, O3.ap, ap_arith, ap_bits, ap_div, ap_shift, ap_eql, ap_lss, ap_beq, ap_min, ap_max, ap_nthI, ap_nthB, ap_inI, ap_inB, G.toInt_int, G.toBool_bool, G.toInts_ints, ltI_t, ltI_f, inN_t, inN_f, and_true, Nat.zero_add, Nat.reduceAdd, arith_add, arith_sub, arith_mul, i64, u64, cas_by, openAt, pinAt, Bool.not_eq_true', Bool.not_eq_false', beq_iff_eq, beq_eq_false_iff_ne, ne_eq] at hp
    first
    | (exfalso; simp at hp; done)
    | (simp only [gAwake, val, xi, xu, xb, SV.den, S2.den, S1.den, cellsDen, List.map, iE, uE, bE, E.den, pt_nil, pt_cons, sg_f1, sg_f2, sg_f3, sg_f4, f1_92, f1_93, f1_100, f1_101, f1_102, f1_104, f2_60, f3_62, f3_63, f4_51, f4_50, f4_60, O1.ap, O3.ap, ap_arith, ap_bits, ap_div, ap_shift, ap_eql, ap_lss, ap_beq, ap_min, ap_max, ap_nthI, ap_nthB, ap_inI, ap_inB, G.toInt_int, G.toBool_bool, G.toInts_ints, ltI_t, ltI_f, inN_t, inN_f, and_true, Nat.zero_add, Nat.reduceAdd, arith_add, arith_sub, arith_mul, i64, u64, cas_by, openAt, pinAt, gplace_u, ggive_u, ghelp_u, galloc_u, gdrop_u, gaccess_u, gact_u, glst_u, gmem_u, gcfg_u, gquad_u, gactx_u, gcw_u, gdm_u, gdm_p, gam_u, gam_p, glm_u, glm_p, hp, reduceIte, if_true, if_false, not_true, not_false_iff, Classical.not_not, true_and, and_true, false_and, and_false, true_or, or_true, false_or, or_false, Bool.not_true, Bool.not_false, Bool.and_true, Bool.and_false, Bool.false_and, Bool.true_and, decide_true, decide_false, Int.reduceEq, Bool.false_eq_true, Bool.true_eq_false]; done)
    | (simp only [gAwake, val, xi, xu, xb, SV.den, S2.den, S1.den, cellsDen, List.map, iE, uE, bE, E.den, pt_nil, pt_cons, sg_f1, sg_f2, sg_f3, sg_f4, f1_92, f1_93, f1_100, f1_101, f1_102, f1_104, f2_60, f3_62, f3_63, f4_51, f4_50, f4_60, O1.ap, O3.ap, ap_arith, ap_bits, ap_div, ap_shift, ap_eql, ap_lss, ap_beq, ap_min, ap_max, ap_nthI, ap_nthB, ap_inI, ap_inB, G.toInt_int, G.toBool_bool, G.toInts_ints, ltI_t, ltI_f, inN_t, inN_f, and_true, Nat.zero_add, Nat.reduceAdd, arith_add, arith_sub, arith_mul, i64, u64, cas_by, openAt, pinAt, gplace_u, ggive_u, ghelp_u, galloc_u, gdrop_u, gaccess_u, gact_u, glst_u, gmem_u, gcfg_u, gquad_u, gactx_u, gcw_u, gdm_u, gdm_p, gam_u, gam_p, glm_u, glm_p]; simp [hp]; done)
    | (simp only [gAwake, val, xi, xu, xb, SV.den, S2.den, S1.den, cellsDen, List.map, iE, uE, bE, E.den, pt_nil, pt_cons, sg_f1, sg_f2, sg_f3, sg_f4, f1_92, f1_93, f1_100, f1_101, f1_102, f1_104, f2_60, f3_62, f3_63, f4_51, f4_50, f4_60, O1.ap, O3.ap, ap_arith, ap_bits, ap_div, ap_shift, ap_eql, ap_lss, ap_beq, ap_min, ap_max, ap_nthI, ap_nthB, ap_inI, ap_inB, G.toInt_int, G.toBool_bool, G.toInts_ints, ltI_t, ltI_f, inN_t, inN_f, and_true, Nat.zero_add, Nat.reduceAdd, arith_add, arith_sub, arith_mul, i64, u64, cas_by, openAt, pinAt, gplace_u, ggive_u, ghelp_u, galloc_u, gdrop_u, gaccess_u, gact_u, glst_u, gmem_u, gcfg_u, gquad_u, gactx_u, gcw_u, gdm_u, gdm_p, gam_u, gam_p, glm_u, glm_p]; simp_all; done)
    | (exfalso; simp_all; done)
    | (exfalso; omega)
    | skip

end Go.Fl
