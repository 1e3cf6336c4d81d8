/- The symbolic executor, part 9: soundness of lists of operations, regions, code, calls. -/
import Derived.Test.YtdkjpjiljplahaaGreatMa
namespace Go.Sx
open Go
set_option linter.unusedSimpArgs false
set_option linter.unusedVariables false

variable {U : Type} {S : Sig U} {n n' : Env U} {P : Program} {T : Tab} {w w' : World} {a : Act} {pa : Path} {tm : List SV} {H : SH} {nx id : Nat} {o o' : Nat → Nat} {h h' : Array Obj} {st : St} {Q : Exit → Act → World → Prop} {K : Act → World → Prop} {ops : Array Oper} {call : CH}

def Out.exitOf : Out → Exit
  | .norm => .normal | .exit i => .exit i | .ret => .ret | .fail => .normal

/-- The state says what holds. -/
structure Mt (S : Sig U) (n : Env U) (o : Nat → Nat) (st : St) (a : Act) (w : World) : Prop where
  tm : Tm S n st.tm a
  sat : Sat S n o w.heap st.H
  pt : PT S n.v st.pa

/-- What must be shown of a way's end. -/
def Good (S : Sig U) (Q : Exit → Act → World → Prop) (n : Env U) (o : Nat → Nat) (w : World) (nx : Nat) (l : Leaf) : Prop :=
  match l.1 with
  | .fail => ¬ PT S n.v l.2.pa
  | out => ∀ n' o' a' w', Ext nx n n' → Fr w o w' o' → nx ≤ l.2.nx → Mt S n' o' l.2 a' w' → Q out.exitOf a' w'

theorem Good.step {nx' : Nat} {l : Leaf} (hg : Good S Q n o w nx l) (he : Ext nx n n') (hf : Fr w o w' o') (hn : nx ≤ nx') : Good S Q n' o' w' nx' l := by
  obtain ⟨out, st⟩ := l
  cases out with
  | fail => simp only [Good] at hg ⊢; rw [he.v]; exact hg
  | _ => exact fun n2 o2 a2 w2 h1 h2 h3 h4 => hg n2 o2 a2 w2 (he.trans h1 hn) (hf.trans h2) (Nat.le_trans hn h3) h4

/-- What a call is known to do. -/
def CallOK (S : Sig U) (P : Program) (call : CH) : Prop :=
  ∀ f args H nx pa cs, call f args H nx pa = some cs → ∀ (n : Env U) (o : Nat → Nat) (w : World), PT S n.v pa → Sat S n o w.heap H →
    (∀ c ∈ cs, c.ok = false → ¬ PT S n.v c.pa) →
    Calls P f (args.map (SV.den S n)).toArray w fun e w' => ∃ c ∈ cs, c.ok = true ∧ PT S n.v c.pa ∧
      ∃ n' o', e = .returned (c.ret.den S n') ∧ Sat S n' o' w'.heap c.H ∧ Fr w o w' o' ∧ Ext nx n n' ∧ nx ≤ c.nx

/-! ### guards, forks -/
def OW (S : Sig U) (n : Env U) (o : Nat → Nat) (P : Program) (w : World) (tm : List SV) (nx : Nat) (ops : Array Oper) (op : Oper) (a : Act) : OR → Prop
  | .skip => Region.wanted op (yielded ops a.tmps) = false
  | .no | .fail | .fork _ => True
  | r => Region.wanted op (yielded ops a.tmps) = true ∧ OR.snd S n o P w tm nx (execOp a.eval op) r

theorem OW.of_snd {op : Oper} {r : OR} (hw : Region.wanted op (yielded ops a.tmps) = true) (h : OR.snd S n o P w tm nx (execOp a.eval op) r) : OW S n o P w tm nx ops op a (noskip r) := by
  cases r <;> first | trivial | exact ⟨hw, h⟩

theorem opw_sound (hT : T.ok P) (hp : PT S n.v pa) (hm : Tm S n tm a) (hs : Sat S n o w.heap H) (op : Oper) :
    OW S n o P w tm nx ops op a (opw T ops pa tm H nx op) := by
  have hx := opx_sound (nx := nx) hT hp hm hs op
  have htm : ∀ (d : Nat) (x : SV), tm[d]? = some x → x.isAny = false → a.tmps[d]? = some (x.den S n) := hm.1.2
  have htn : ∀ d : Nat, tm[d]? = none → a.tmps[d]? = none := fun d h => by
    rw [List.getElem?_eq_none_iff] at h
    rw [Array.getElem?_eq_none_iff, hm.1.1]; exact h
  unfold opw
  split
  · rename_i hg
    exact OW.of_snd (by simp [Region.wanted, hg]) hx
  · rename_i j want hg
    split
    · rename_i hd
      simp [OW, Region.wanted, hg, yielded, hd]
    · rename_i d hd
      split
      · rename_i ht
        simp [OW, Region.wanted, hg, yielded, hd, htn _ ht]
      · rename_i e ht
        have hy : yielded ops a.tmps j = some (e.den S n.v).toBool := by
          simp [yielded, hd, htm _ _ ht rfl, SV.den, S2.den, S1.den]
        split
        · rename_i b hb
          have := dec_sound hp hb
          rw [this] at hy
          split
          · rename_i hbw
            exact OW.of_snd (by simp [Region.wanted, hg, hy]; simpa using hbw) hx
          · rename_i hbw
            simp [OW, Region.wanted, hg, hy]; simpa using hbw
        · trivial
      · trivial
      · rename_i v hv1 hv2 ht
        split
        · trivial
        rename_i hany
        have hy : yielded ops a.tmps j = none := by
          simp only [yielded, hd, Option.bind_some, htm _ _ ht hany]
          cases v with
          | tup l => simp [SV.den]
          | one x =>
            cases x with
            | agg l => simp [SV.den, S2.den]
            | c y =>
              cases y
              case clo f b z => cases b <;> cases z <;> simp [SV.den, S2.den, S1.den]
              all_goals first | (exact absurd rfl (hv1 _)) | (exact absurd rfl (hv2 _)) | simp [SV.den, S2.den, S1.den]
        simp [OW, Region.wanted, hg, hy]

theorem forks_sound {v : Nat → G U} (f : Path → OR) : ∀ (k : Nat) (pa : Path) (l : List (Path × OR)), forks k pa f = some l → PT S v pa →
    ∃ x ∈ l, PT S v x.1 ∧ x.2 = f x.1
  | 0, pa, l, h, _ => by simp [forks] at h
  | k + 1, pa, l, h, hp => by
    unfold forks at h
    split at h
    · rename_i e he
      split at h
      · rename_i x y hx hy
        simp at h; subst h
        cases hb : (e.den S v).toBool with
        | true =>
          obtain ⟨z, hz, h1, h2⟩ := forks_sound f k _ x hx (fun q hq => by rcases List.mem_cons.1 hq with rfl | hq; exact hb; exact hp q hq)
          exact ⟨z, List.mem_append_left _ hz, h1, h2⟩
        | false =>
          obtain ⟨z, hz, h1, h2⟩ := forks_sound f k _ y hy (fun q hq => by rcases List.mem_cons.1 hq with rfl | hq; exact hb; exact hp q hq)
          exact ⟨z, List.mem_append_right _ hz, h1, h2⟩
      · simp at h
    · simp at h; subst h
      exact ⟨_, List.mem_singleton.2 rfl, hp, rfl⟩

theorem leavesOf_mem {d : Option Tmp} : ∀ {l : List (Path × OR)} {ls : List Leaf}, leavesOf call st d l = some ls → ∀ x ∈ l, ∃ ls', leafOf call st d x.1 x.2 = some ls' ∧ ∀ y ∈ ls', y ∈ ls
  | [], ls, h, x, hx => by cases hx
  | (pa, r) :: l, ls, h, x, hx => by
    simp only [leavesOf] at h
    split at h
    · rename_i p q hp hq
      simp at h; subst h
      rcases List.mem_cons.1 hx with rfl | hx
      · exact ⟨p, hp, fun y hy => List.mem_append_left _ hy⟩
      · obtain ⟨ls', h1, h2⟩ := leavesOf_mem hq x hx
        exact ⟨ls', h1, fun y hy => List.mem_append_right _ (h2 y hy)⟩
    · simp at h

theorem Tm.put (hm : Tm S n tm a) (d : Option Tmp) (v : SV) : Tm S n (putT tm d v) (a.put d (v.den S n)) := by
  obtain ⟨h1, h2⟩ := hm
  cases d with
  | none => exact ⟨h1, h2⟩
  | some d =>
    refine ⟨⟨by simp [putT, Act.put, h1.1], fun e x hx hany => ?_⟩, h2⟩
    simp only [putT, List.getElem?_set] at hx
    simp only [Act.put, Array.getElem?_setIfInBounds]
    split at hx
    · rename_i hde
      subst hde
      split at hx
      · rename_i hlt
        simp at hx; subst hx
        rw [if_pos rfl, if_pos (by rw [h1.1]; exact hlt)]
      · simp at hx
    · rename_i hde
      rw [if_neg hde]
      exact h1.2 e x hx hany

theorem Tm.of_eq (hm : Tm S n tm a) (h : tm.map (SV.den S n') = tm.map (SV.den S n)) : Tm S n' tm a := ⟨⟨hm.1.1, fun d x hx hany => by
  have h1 := congrArg (fun l => l[d]?) h
  simp only [List.getElem?_map, hx, Option.map_some, Option.some.injEq] at h1
  rw [h1]; exact hm.1.2 d x hx hany⟩, hm.2⟩

/-- One operation of a region. -/
theorem doOp_sound (hT : T.ok P) (hc : CallOK S P call) {op : Oper} {ls : List Leaf} (hd : doOp T call ops op st = some ls) (hm : Mt S n o st a w)
    (hg : ∀ l ∈ ls, Good S (Exit.then K Q) n o w st.nx l) :
    if Region.wanted op (yielded ops a.tmps) then op.wp P a w K Q else K (a.put op.dst undef) w := by
  unfold doOp at hd
  split at hd
  · rename_i l hl
    obtain ⟨x, hx, hp, hr⟩ := forks_sound (S := S) (v := n.v) _ _ _ _ hl hm.pt
    obtain ⟨ls', h1, h2⟩ := leavesOf_mem hd x hx
    have hw := opw_sound (ops := ops) (nx := st.nx) hT hp hm.tm hm.sat op
    rw [← hr] at hw
    obtain ⟨pa, r⟩ := x
    simp only at hp h1 hw
    have one : ∀ v, some [((Out.norm, { st with tm := putT st.tm op.dst v, pa := pa }) : Leaf)] = some ls' → K (a.put op.dst (v.den S n)) w := by
      intro v h1
      simp at h1; subst h1
      exact hg _ (h2 _ (List.mem_singleton.2 rfl)) n o _ w (Ext.refl _ _) (Fr.refl _ _) (Nat.le_refl _) ⟨hm.tm.put _ _, hm.sat, hp⟩
    cases r with
    | no => simp [leafOf] at h1
    | fork e => simp [leafOf] at h1
    | skip =>
      simp only [OW] at hw
      rw [if_neg (by simp [hw])]
      exact one SV.undef h1
    | fail =>
      simp [leafOf] at h1; subst h1
      exact absurd hp (hg _ (h2 _ (List.mem_singleton.2 rfl)))
    | val v =>
      obtain ⟨hw1, hw2⟩ := hw
      rw [if_pos hw1]
      simp only [Oper.wp, hw2 w, Oper.upon]
      exact one v h1
    | ld v =>
      obtain ⟨hw1, hw2⟩ := hw
      rw [if_pos hw1]
      simp only [OR.snd] at hw2
      simp only [Oper.wp, hw2, Oper.upon]
      exact one v h1
    | eff v H' nx' =>
      obtain ⟨hw1, n2, o2, w2, rr, e1, e2, e3, e4, e5, e6, e7⟩ := hw
      rw [if_pos hw1]
      simp only [Oper.wp, e1]
      simp [leafOf] at h1; subst h1
      have fin : K (a.put op.dst (v.den S n2)) w2 :=
        hg _ (h2 _ (List.mem_singleton.2 rfl)) n2 o2 _ w2 e5 e4 e7 ⟨(hm.tm.of_eq e6).put _ _, e3, by rw [e5.v]; exact hp⟩
      rcases e2 with rfl | ⟨rfl, rfl⟩
      · exact fin
      · exact fin
    | call f args =>
      obtain ⟨hw1, hw2⟩ := hw
      rw [if_pos hw1]
      simp only [leafOf] at h1
      split at h1
      · rename_i hlt
        simp only [Bool.and_eq_true] at hlt
        split at h1
        · rename_i cs hcs
          simp at h1; subst h1
          simp only [Oper.wp, hw2 w, Oper.upon]
          have hcall := hc f args st.H st.nx pa cs hcs n o w hp hm.sat (fun c hcm hok hpc => by
            have := hg _ (h2 _ (List.mem_map.2 ⟨c, hcm, rfl⟩))
            simp only [coLeaf, hok, Bool.false_eq_true, if_false] at this
            exact this hpc)
          refine Calls.mono hcall fun e w' ⟨c, hcm, hok, hpc, n2, o2, he, h3, h4, h5, h6⟩ => ?_
          subst he
          have hl := hg _ (h2 _ (List.mem_map.2 ⟨c, hcm, rfl⟩))
          simp only [coLeaf, hok, if_true] at hl
          exact hl n2 o2 _ w' h5 h4 h6 ⟨(hm.tm.of_eq (SVs.den_ext h5 hlt.1)).put _ _, h3, by rw [h5.v]; exact hpc⟩
        · simp at h1
      · simp at h1
  · simp at hd

/-! ### lists -/
theorem bindL_good {f : St → Option (List Leaf)} : ∀ {l ls : List Leaf}, bindL l f = some ls → ∀ x ∈ l,
    (∀ st, x = (.norm, st) → ∃ ls', f st = some ls' ∧ ∀ y ∈ ls', y ∈ ls) ∧ (x.1 ≠ .norm → x ∈ ls)
  | [], ls, h, x, hx => by cases hx
  | (out, st) :: r, ls, h, x, hx => by
    cases out with
    | norm =>
      simp only [bindL] at h
      split at h
      · rename_i p q hp hq
        simp at h; subst h
        rcases List.mem_cons.1 hx with rfl | hx
        · exact ⟨fun st' e => by simp at e; subst e; exact ⟨p, hp, fun y hy => List.mem_append_left _ hy⟩, fun hne => absurd rfl hne⟩
        · obtain ⟨h1, h2⟩ := bindL_good hq x hx
          refine ⟨fun st' e => ?_, fun hne => List.mem_append_right _ (h2 hne)⟩
          obtain ⟨ls', h3, h4⟩ := h1 st' e
          exact ⟨ls', h3, fun y hy => List.mem_append_right _ (h4 y hy)⟩
      · simp at h
    | _ =>
      simp only [bindL, Option.map_eq_some_iff] at h
      obtain ⟨q, hq, rfl⟩ := h
      rcases List.mem_cons.1 hx with rfl | hx
      · exact ⟨fun st' e => by simp at e, fun _ => List.mem_cons_self ..⟩
      · obtain ⟨h1, h2⟩ := bindL_good hq x hx
        refine ⟨fun st' e => ?_, fun hne => List.mem_cons_of_mem _ (h2 hne)⟩
        obtain ⟨ls', h3, h4⟩ := h1 st' e
        exact ⟨ls', h3, fun y hy => List.mem_cons_of_mem _ (h4 y hy)⟩

/-- What follows is good where what it comes to is. -/
theorem Good.bind {f : St → Option (List Leaf)} {l ls : List Leaf} (hb : bindL l f = some ls) (hg : ∀ x ∈ ls, Good S Q n o w nx x)
    (hf : ∀ st' ls' n' o' w' a', f st' = some ls' → Mt S n' o' st' a' w' → (∀ x ∈ ls', Good S Q n' o' w' st'.nx x) → K a' w') :
    ∀ x ∈ l, Good S (Exit.then K Q) n o w nx x := by
  intro x hx
  obtain ⟨h1, h2⟩ := bindL_good hb x hx
  obtain ⟨out, st⟩ := x
  cases out with
  | norm =>
    obtain ⟨ls', h3, h4⟩ := h1 st rfl
    intro n' o' a' w' he hfr hnx hm
    exact hf st ls' n' o' w' a' h3 hm fun y hy => (hg y (h4 y hy)).step he hfr hnx
  | exit i => exact hg _ (h2 (by simp))
  | ret => exact hg _ (h2 (by simp))
  | fail => exact hg _ (h2 (by simp))

theorem execOps_sound (hT : T.ok P) (hc : CallOK S P call) : ∀ (l : List Oper) (st : St) (ls : List Leaf) (n : Env U) (o : Nat → Nat) (w : World) (a : Act),
    execOps T call ops l st = some ls → Mt S n o st a w → (∀ x ∈ ls, Good S Q n o w st.nx x) → wpList P ops Q l a w
  | [], st, ls, n, o, w, a, h, hm, hg => by
    simp [execOps] at h; subst h
    exact hg _ (List.mem_singleton.2 rfl) n o a w (Ext.refl _ _) (Fr.refl _ _) (Nat.le_refl _) hm
  | op :: rest, st, ls, n, o, w, a, h, hm, hg => by
    simp only [execOps, obind] at h
    split at h
    · rename_i l hl
      refine wpList_step fun K' hK => ?_
      have := doOp_sound (Q := Q) (K := K') hT hc hl hm (Good.bind h hg fun st' ls' n' o' w' a' h1 h2 h3 => hK _ _ (execOps_sound hT hc rest st' ls' n' o' w' a' h1 h2 h3))
      exact this
    · simp at h

end Go.Sx

/- The symbolic executor, part 10: soundness of regions that draw, of code. -/
namespace Go.Sx
open Go
set_option linter.unusedSimpArgs false
set_option linter.unusedVariables false

variable {U : Type} {S : Sig U} {n n' n0 : Env U} {P : Program} {T : Tab} {w w' : World} {a : Act} {pa : Path} {tm : List SV} {H : SH} {nx id b0 : Nat} {o o' : Nat → Nat} {h h' : Array Obj} {st : St} {Q : Exit → Act → World → Prop} {K : Act → World → Prop} {ops : Array Oper} {call : CH} {hd : Held}

/-- The cells that nobody in the region writes. -/
def HW (S : Sig U) (n : Env U) (hd : Held) (w : World) : Prop := ∀ x ∈ hd, w.cell? ⟨n.rho x.1, x.2.1, none⟩ = some (x.2.2.den S n)

def hdlt (b0 : Nat) (hd : Held) : Bool := hd.all fun x => decide (x.1 < b0) && x.2.2.lt b0

theorem HW.ext (h : HW S n0 hd w) (he : Ext b0 n0 n) (hl : hdlt b0 hd = true) : HW S n hd w := by
  intro x hx
  have := List.all_eq_true.1 hl x hx
  simp only [Bool.and_eq_true, decide_eq_true_eq] at this
  rw [he.rho _ this.1, S1.den_ext he this.2]
  exact h x hx
theorem HW.unext (h : HW S n hd w) (he : Ext b0 n0 n) (hl : hdlt b0 hd = true) : HW S n0 hd w := by
  intro x hx
  have := List.all_eq_true.1 hl x hx
  simp only [Bool.and_eq_true, decide_eq_true_eq] at this
  rw [← he.rho _ this.1, ← S1.den_ext he this.2]
  exact h x hx

theorem HW.of_ok (hs : Sat S n o w.heap H) (hok : heldOK hd H = true) : HW S n hd w := by
  intro x hx
  have := List.all_eq_true.1 hok x hx
  split at this
  · rename_i l hl
    simp only [decide_eq_true_eq] at this
    obtain ⟨_, _, ty, hb⟩ := hs.get hl
    rw [cells_of_heap hb]
    simp [cellsDen, this]
  · simp at this

theorem Held.get_sound (h : HW S n hd w) {i : Nat} {c : S1} (hg : hd.get id i = some c) : w.cell? ⟨n.rho id, i, none⟩ = some (c.den S n) := by
  unfold Held.get at hg
  simp only [Option.map_eq_some_iff] at hg
  obtain ⟨x, hx, rfl⟩ := hg
  have h1 := List.mem_of_find?_eq_some hx
  have h2 := List.find?_some hx
  simp only [Bool.and_eq_true, beq_iff_eq] at h2
  obtain ⟨rfl, rfl⟩ := h2
  exact h x h1

theorem Held.gets_sound (h : HW S n hd w) : ∀ {m i : Nat} {l : List S1}, hd.gets id i m = some l → l.length = m ∧ ∀ j v, (cellsDen S n l)[j]? = some v → w.cell? ⟨n.rho id, i + j, none⟩ = some v
  | 0, i, l, hg => by simp [Held.gets] at hg; subst hg; simp [cellsDen]
  | m + 1, i, l, hg => by
    simp only [Held.gets] at hg
    split at hg
    · rename_i x r hx hr
      simp at hg; subst hg
      obtain ⟨h1, h2⟩ := Held.gets_sound h hr
      refine ⟨by simp [h1], fun j v hj => ?_⟩
      cases j with
      | zero => simp [cellsDen] at hj; subst hj; exact Held.get_sound h hx
      | succ j =>
        have := h2 j v (by simpa [cellsDen] using hj)
        rwa [show i + (j + 1) = i + 1 + j by omega]
    · simp at hg

theorem quietx_sound (hT : T.ok P) (hm : Mt S n o st a w) (he : Ext b0 n0 n) (hl : hdlt b0 hd = true) {op : Oper} {v : SV} (hq : quietx T ops hd st op = some v) :
    YieldsIf P ops (HW S n0 hd) op (v.den S n) a := by
  have hw := opw_sound (ops := ops) (nx := st.nx) hT hm.pt hm.tm hm.sat op
  unfold quietx at hq
  split at hq
  · rename_i he
    rw [he] at hw
    simp at hq; subst hq
    exact .inr ⟨hw, rfl⟩
  · rename_i v' he
    rw [he] at hw
    simp at hq; subst hq
    exact .inl ⟨hw.1, fun w' _ => hw.2 w'⟩
  · rename_i v' hv
    rw [hv] at hw
    refine .inl ⟨hw.1, fun w' hW => ?_⟩
    have hW' := hW.ext he hl
    split at hq
    · rename_i t x hop
      split at hq
      · rename_i id q i hx hi
        obtain ⟨f, d, hf, hd', e1, e2, _⟩ := hT.info hi
        have hev := evx_sound hm.tm hx
        have hsure : ∀ w : World, (Instr.sureAddr ((SV.one (.c (.ptr id (.int q)))).den S n)).run P w = .ok ⟨n.rho id, q.toNat, none⟩ w := fun _ => rfl
        simp only [execOp, hop, hev, Instr.loadAt]
        split at hq
        · rename_i hagg
          simp only [Option.map_eq_some_iff] at hq
          obtain ⟨l, hl', rfl⟩ := hq
          obtain ⟨h1, h2⟩ := Held.gets_sound hW' hl'
          simp only [Sem.run_bind, hsure, Result.andThen_ok]
          rw [run_loadVar_agg hf hd' (by rw [← e1]; exact hagg) (cs := cellsDen S n l) (by simp [cellsDen]; omega) h2]
          rfl
        · rename_i hagg
          simp only [Option.map_eq_some_iff] at hq
          obtain ⟨c, hl', rfl⟩ := hq
          simp only [Sem.run_bind, hsure, Result.andThen_ok]
          rw [run_loadVar_one hd' (by rw [← e1]; simpa using hagg) (Held.get_sound hW' hl')]
          rfl
      · simp at hq
    · simp at hq
  · simp at hq

theorem firstQuiet_sound {listed : Array Bool} : ∀ {l : List Nat} {i : Nat} {v : SV}, firstQuiet T ops hd st listed l = some (i, v) →
    i ∈ l ∧ Region.free .any ops listed i = true ∧ ∃ op, ops[i]? = some op ∧ quietx T ops hd st op = some v
  | [], i, v, h => by simp [firstQuiet] at h
  | j :: r, i, v, h => by
    unfold firstQuiet at h
    split at h
    · simp at h
    · rename_i op hop
      split at h
      · rename_i u hu
        split at h
        · rename_i hf
          simp at h
          obtain ⟨rfl, rfl⟩ := h
          exact ⟨List.mem_cons_self .., hf, op, hop, hu⟩
        · obtain ⟨h1, h2⟩ := firstQuiet_sound h
          exact ⟨List.mem_cons_of_mem _ h1, h2⟩
      · obtain ⟨h1, h2⟩ := firstQuiet_sound h
        exact ⟨List.mem_cons_of_mem _ h1, h2⟩

/-- Q, but no panic. -/
def NP (Q : Exit → Act → World → Prop) : Exit → Act → World → Prop
  | .panic _, _, _ => False
  | e, a, w => Q e a w
theorem NP.imp : ∀ (e : Exit) (a : Act) (w : World), NP Q e a w → Q e a w := fun e a w h => by cases e <;> first | exact h | exact (h : False).elim
theorem NP.good {l : Leaf} (h : Good S Q n o w nx l) : Good S (NP Q) n o w nx l := by
  obtain ⟨out, st⟩ := l
  cases out <;> exact h

theorem Good.mono {nx' : Nat} {l : Leaf} (h : Good S Q n o w nx l) (hn : nx ≤ nx') : Good S Q n o w nx' l := h.step (Ext.refl _ _) (Fr.refl _ _) hn

/-- Of a way's end whose fresh numbers are set anew. -/
theorem Good.setnx {out : Out} {s : St} {k : Nat} (h : Good S Q n o w nx (out, { s with nx := k })) (hk : nx ≤ k) : Good S Q n o w nx (out, s) := by
  cases out with
  | fail => exact h
  | _ => exact fun n' o' a' w' h1 h2 h3 h4 => h n' o' a' w' h1 h2 hk ⟨h4.tm, h4.sat, h4.pt⟩

theorem allSame_sound {f : Nat → Option (List Leaf)} : ∀ {l : List Nat} {x : List Leaf}, allSame f l = some x → ∀ i ∈ l, f i = some x
  | [], x, h, i, hi => by cases hi
  | j :: r, x, h, i, hi => by
    rw [allSame] at h
    split at h
    · rename_i y hy
      split at h
      · rename_i hall
        simp at h; subst h
        rcases List.mem_cons.1 hi with rfl | hi
        · exact hy
        · have := List.all_eq_true.1 hall i hi
          simpa using this
      · simp at h
    · simp at h

theorem drawX_sound (hT : T.ok P) (hc : CallOK S P call) (hsel : Region.noSelect ops = true) (hl : hdlt b0 hd = true) :
    ∀ (k : Nat) (listed : Array Bool) (st : St) (ls : List Leaf) (n : Env U) (o : Nat → Nat) (w : World) (a : Act),
      drawX T call ops hd b0 k listed st = some ls → Mt S n o st a w → Ext b0 n0 n → b0 ≤ st.nx → HW S n0 hd w →
      (∀ x ∈ ls, Good S Q n o w b0 x) → wpAnyH P .any ops (NP Q) (HW S n0 hd) k listed a w := by
  intro k
  induction k with
  | zero =>
    intro listed st ls n o w a h hm he hb hW hg
    unfold drawX at h
    split at h
    · rename_i hr
      simp at h; subst h
      exact wpAnyH_done hr (NP.good (hg _ (List.mem_singleton.2 rfl)) n o a w (Ext.refl _ _) (Fr.refl _ _) hb hm) _
    · simp at h
  | succ k ih =>
    intro listed st ls n o w a h hm he hb hW hg
    unfold drawX at h
    split at h
    · rename_i hr
      simp at h; subst h
      exact wpAnyH_done hr (NP.good (hg _ (List.mem_singleton.2 rfl)) n o a w (Ext.refl _ _) (Fr.refl _ _) hb hm) _
    · rename_i hr
      split at h
      · rename_i i v hq
        obtain ⟨h1, h2, op, hop, hqx⟩ := firstQuiet_sound hq
        refine wpAnyH_take hop hsel h2 (by simpa using h1) (fun c a w hh => hh) (quietx_sound hT hm he hl hqx) hW ?_
        rw [hop] at h
        exact ih _ _ ls n o w _ h ⟨hm.tm.put _ _, hm.sat, hm.pt⟩ he hb hW hg
      · refine wpAnyH_all rfl hr fun i hi => ?_
        have h1 := allSame_sound h i hi
        unfold drawOne at h1
        split at h1
        · simp at h1
        · rename_i op hop
          split at h1
          · simp at h1
          · rename_i l2 hl2
            have hin : Mt S n o (inSt b0 i op st) a w := by
              unfold inSt
              split
              · exact ⟨hm.tm, hm.sat, hm.pt⟩
              · exact hm
            have hgood : ∀ x ∈ l2.map (outSt st.nx op), Good S (Exit.then (fun a' w' => HW S n0 hd w' ∧ wpAnyH P .any ops (NP Q) (HW S n0 hd) k (listed.setIfInBounds i true) a' w') (NP Q)) n o w b0 x := by
              intro x hx
              obtain ⟨g1, g2⟩ := bindL_good h1 x hx
              obtain ⟨out, s⟩ := x
              cases out with
              | norm =>
                obtain ⟨ls', h3, h4⟩ := g1 s rfl
                split at h3
                · rename_i hok
                  intro n' o' a' w' e1 e2 e3 e4
                  have hW' := (HW.of_ok e4.sat hok).unext (he.trans e1 (Nat.le_refl _)) hl
                  exact ⟨hW', ih _ s ls' n' o' w' a' h3 e4 (he.trans e1 (Nat.le_refl _)) e3 hW' fun y hy => (hg y (h4 y hy)).step e1 e2 (Nat.le_refl _)⟩
                · simp at h3
              | exit i => exact NP.good (hg _ (g2 (by simp)))
              | ret => exact NP.good (hg _ (g2 (by simp)))
              | fail => exact hg _ (g2 (by simp))
            have hgood2 : ∀ x ∈ l2, Good S (Exit.then (fun a' w' => HW S n0 hd w' ∧ wpAnyH P .any ops (NP Q) (HW S n0 hd) k (listed.setIfInBounds i true) a' w') (NP Q)) n o w (inSt b0 i op st).nx x := by
              intro x hx
              have g := hgood _ (List.mem_map.2 ⟨x, hx, rfl⟩)
              unfold outSt at g
              unfold inSt
              by_cases hmk : makes op.op = true
              · rw [if_pos hmk] at g ⊢
                exact (Good.setnx g hb).mono (by simp)
              · rw [if_neg hmk] at g ⊢
                exact g.mono hb
            have := doOp_sound hT hc hl2 hin hgood2
            unfold wpOp
            rw [hop]
            simp only
            split
            · rename_i hw; rw [if_pos hw] at this; exact .inl this
            · rename_i hw; rw [if_neg hw] at this; exact this

theorem drawS_sound (hT : T.ok P) (hc : CallOK S P call) (hsel : Region.noSelect ops = true) (hl : hdlt b0 hd = true) :
    ∀ (p k : Nat) (listed : Array Bool) (m : Nat) (st : St) (ls : List Leaf) (n : Env U) (o : Nat → Nat) (w : World) (a : Act), ListedM ops listed m →
      drawS T call ops (depsM ops) hd b0 p k m st = some ls → Mt S n o st a w → Ext b0 n0 n → b0 ≤ st.nx → HW S n0 hd w →
      (∀ x ∈ ls, Good S Q n o w b0 x) → wpAnyH P .any ops (NP Q) (HW S n0 hd) k listed a w := by
  intro p
  induction p with
  | zero => intro k listed m st ls n o w a hlm h; simp [drawS] at h
  | succ p ih =>
    intro k listed m st ls n o w a hlm h hm he hb hW hg
    unfold drawS at h
    rw [readyM_eq hlm] at h
    have hlt : ∀ i ∈ Region.ready .any ops listed, i < ops.size := fun i hi => ready_lt hi
    split at h
    · rename_i hr
      simp at h; subst h
      exact wpAnyH_done hr (NP.good (hg _ (List.mem_singleton.2 rfl)) n o a w (Ext.refl _ _) (Fr.refl _ _) hb hm) _
    · rename_i x y hr
      split at h
      · simp at h
      · rename_i k
        have hne : Region.ready .any ops listed ≠ [] := by rw [hr]; simp
        rw [← hr] at h
        rw [firstQuietM_eq hlm _ hlt] at h
        split at h
        · rename_i i v hq
          obtain ⟨h1, h2, op, hop, hqx⟩ := firstQuiet_sound hq
          refine wpAnyH_take hop hsel h2 (by simpa using h1) (fun c a w hh => hh) (quietx_sound hT hm he hl hqx) hW ?_
          rw [hop] at h
          exact ih _ _ _ _ ls n o w _ (hlm.put (hlt i (firstQuiet_mem hq))) h ⟨hm.tm.put _ _, hm.sat, hm.pt⟩ he hb hW hg
        · split at h
          · rename_i e _
            split at h
            · rename_i la lb ha hb2
              simp at h; subst h
              cases hev : (e.den S n.v).toBool with
              | true =>
                exact ih _ _ _ _ la n o w a hlm ha ⟨hm.tm, hm.sat, fun x hx => by
                  rcases List.mem_cons.1 hx with rfl | hx
                  · exact hev
                  · exact hm.pt x hx⟩ he hb hW fun x hx => hg x (List.mem_append_left _ hx)
              | false =>
                exact ih _ _ _ _ lb n o w a hlm hb2 ⟨hm.tm, hm.sat, fun x hx => by
                  rcases List.mem_cons.1 hx with rfl | hx
                  · exact hev
                  · exact hm.pt x hx⟩ he hb hW fun x hx => hg x (List.mem_append_right _ hx)
            · simp at h
          · refine wpAnyH_all rfl hne fun i hi => ?_
            have h1 := allSame_sound h i hi
            unfold drawOne at h1
            split at h1
            · simp at h1
            · rename_i op hop
              split at h1
              · simp at h1
              · rename_i l2 hl2
                have hin : Mt S n o (inSt b0 i op st) a w := by
                  unfold inSt
                  split
                  · exact ⟨hm.tm, hm.sat, hm.pt⟩
                  · exact hm
                have hgood : ∀ x ∈ l2.map (outSt st.nx op), Good S (Exit.then (fun a' w' => HW S n0 hd w' ∧ wpAnyH P .any ops (NP Q) (HW S n0 hd) k (listed.setIfInBounds i true) a' w') (NP Q)) n o w b0 x := by
                  intro x hx
                  obtain ⟨g1, g2⟩ := bindL_good h1 x hx
                  obtain ⟨out, s⟩ := x
                  cases out with
                  | norm =>
                    obtain ⟨ls', h3, h4⟩ := g1 s rfl
                    split at h3
                    · rename_i hok
                      intro n' o' a' w' e1 e2 e3 e4
                      have hW' := (HW.of_ok e4.sat hok).unext (he.trans e1 (Nat.le_refl _)) hl
                      exact ⟨hW', ih k (listed.setIfInBounds i true) _ s ls' n' o' w' a' (hlm.put (hlt i hi)) h3 e4 (he.trans e1 (Nat.le_refl _)) e3 hW' fun y hy => (hg y (h4 y hy)).step e1 e2 (Nat.le_refl _)⟩
                    · simp at h3
                  | exit i => exact NP.good (hg _ (g2 (by simp)))
                  | ret => exact NP.good (hg _ (g2 (by simp)))
                  | fail => exact hg _ (g2 (by simp))
                have hgood2 : ∀ x ∈ l2, Good S (Exit.then (fun a' w' => HW S n0 hd w' ∧ wpAnyH P .any ops (NP Q) (HW S n0 hd) k (listed.setIfInBounds i true) a' w') (NP Q)) n o w (inSt b0 i op st).nx x := by
                  intro x hx
                  have g := hgood _ (List.mem_map.2 ⟨x, hx, rfl⟩)
                  unfold outSt at g
                  unfold inSt
                  by_cases hmk : makes op.op = true
                  · rw [if_pos hmk] at g ⊢
                    exact (Good.setnx g hb).mono (by simp)
                  · rw [if_neg hmk] at g ⊢
                    exact g.mono hb
                have := doOp_sound hT hc hl2 hin hgood2
                unfold wpOp
                rw [hop]
                simp only
                split
                · rename_i hw; rw [if_pos hw] at this; exact .inl this
                · rename_i hw; rw [if_neg hw] at this; exact this

theorem drawReg_sound (hT : T.ok P) (hc : CallOK S P call) {rid : Nat} {ls : List Leaf} (h : drawReg T call ops st = some ls) (hm : Mt S n o st a w)
    (hg : ∀ x ∈ ls, Good S Q n o w st.nx x) : (Code.region rid ops true).wp P Q a w := by
  unfold drawReg at h
  split at h
  · rename_i h0
    simp only [Bool.and_eq_true] at h0
    split at h
    · rename_i s1 r0 hx
      simp only at h
      generalize (List.filter (fun x => r0.all fun l => heldOK [x] l.snd.H) (heldOf st.H s1.H)) = hd at h
      split at h
      · rename_i h1
        simp only [Bool.and_eq_true] at h1
        refine Code.wp_mono NP.imp (wp_region_held (S := HW S n hd) hT.mixed ?_)
        have hm' : Mt S n o { st with nx := st.nx + gapOf ops } a { w with drawn := w.drawn + 1 } := ⟨hm.tm, hm.sat, hm.pt⟩
        refine drawS_sound hT hc h0.1 (by unfold hdlt; exact h1.2) _ _ _ _ _ _ n o _ a (ListedM.zero ops) h hm' (Ext.refl _ _) (Nat.le_add_right _ _) (HW.of_ok hm'.sat h1.1) fun x hx => ?_
        exact (hg x hx).step (Ext.refl _ _) (Fr.drew w o) (Nat.le_refl _)
      · simp at h
    · simp at h
  · simp at h

theorem iter_sound {f : St → Option (List Leaf)} {c : Code}
    (hf : ∀ (Q : Exit → Act → World → Prop) st ls (n : Env U) o w a, f st = some ls → Mt S n o st a w → (∀ x ∈ ls, Good S Q n o w st.nx x) → c.wp P Q a w) :
    ∀ (k : Nat) (st : St) (ls : List Leaf) (n : Env U) (o : Nat → Nat) (w : World) (a : Act), iter k f st = some ls → Mt S n o st a w →
      (∀ x ∈ ls, Good S Q n o w st.nx x) → Code.rounds P c Q k a w
  | 0, st, ls, n, o, w, a, h, hm, hg => by simp [iter] at h
  | k + 1, st, ls, n, o, w, a, h, hm, hg => by
    simp only [iter, obind] at h
    split at h
    · rename_i l hl
      rw [rounds_succ]
      exact hf _ st l n o w a hl hm (Good.bind h hg fun st' ls' n' o' w' a' h1 h2 h3 => iter_sound hf k st' ls' n' o' w' a' h1 h2 h3)
    · simp at h

theorem exec_sound (hT : T.ok P) (hc : CallOK S P call) (rounds : Nat) : ∀ (c : Code) (Q : Exit → Act → World → Prop) (st : St) (ls : List Leaf) (n : Env U) (o : Nat → Nat) (w : World) (a : Act),
    exec T call rounds c st = some ls → Mt S n o st a w → (∀ x ∈ ls, Good S Q n o w st.nx x) → c.wp P Q a w := by
  have leaf1 : ∀ {Q : Exit → Act → World → Prop} {out : Out} {st : St} {ls : List Leaf} {n : Env U} {o : Nat → Nat} {w : World} {a : Act}, some [((out, st) : Leaf)] = some ls → out ≠ .fail → Mt S n o st a w →
      (∀ x ∈ ls, Good S Q n o w st.nx x) → Q out.exitOf a w := by
    intro Q out st ls n o w a h hne hm hg
    simp at h; subst h
    have := hg _ (List.mem_singleton.2 rfl)
    cases out with
    | fail => exact absurd rfl hne
    | _ => exact this n o a w (Ext.refl _ _) (Fr.refl _ _) (Nat.le_refl _) hm
  intro c
  induction c with
  | skip => intro Q st ls n o w a h hm hg; exact wp_skip (leaf1 h (by simp) hm hg)
  | label l => intro Q st ls n o w a h hm hg; exact wp_label (leaf1 h (by simp) hm hg)
  | exit i => intro Q st ls n o w a h hm hg; exact wp_exit (leaf1 h (by simp) hm hg)
  | ret => intro Q st ls n o w a h hm hg; exact wp_ret (leaf1 h (by simp) hm hg)
  | region rid ops draw =>
    intro Q st ls n o w a h hm hg
    cases draw with
    | true => exact drawReg_sound hT hc (by simpa [exec] using h) hm hg
    | false => exact wp_region_list (execOps_sound hT hc _ st ls n o w a (by simpa [exec] using h) hm hg)
  | seq x y ihx ihy =>
    intro Q st ls n o w a h hm hg
    simp only [exec, obind] at h
    split at h
    · rename_i l hl
      exact wp_seq (ihx _ st l n o w a hl hm (Good.bind h hg fun st' ls' n' o' w' a' h1 h2 h3 => ihy Q st' ls' n' o' w' a' h1 h2 h3))
    · simp at h
  | cond c x y ihx ihy =>
    intro Q st ls n o w a h hm hg
    simp only [exec] at h
    split at h
    · rename_i e he
      have hev := evx_sound hm.tm he
      simp only [SV.den, S2.den, S1.den] at hev
      split at h
      · rename_i hd
        rw [dec_sound hm.pt hd] at hev
        exact wp_cond_true hev (ihx Q st ls n o w a h hm hg)
      · rename_i hd
        rw [dec_sound hm.pt hd] at hev
        exact wp_cond_false hev (ihy Q st ls n o w a h hm hg)
      · have pt : ∀ b, ((base e).den S n.v).toBool = b → PT S n.v ((base e, b) :: st.pa) := fun b hb q hq => by
          rcases List.mem_cons.1 hq with rfl | hq
          · exact hb
          · exact hm.pt q hq
        split at h
        · rename_i h1 h2
          split at h
          · rename_i p q hp hq
            simp at h; subst h
            cases hb : ((base e).den S n.v).toBool with
            | true =>
              rw [dec_sound (pt _ hb) h1] at hev
              exact wp_cond_true hev (ihx Q _ p n o w a hp ⟨hm.tm, hm.sat, pt _ hb⟩ fun z hz => hg z (List.mem_append_left _ hz))
            | false =>
              rw [dec_sound (pt _ hb) h2] at hev
              exact wp_cond_false hev (ihy Q _ q n o w a hq ⟨hm.tm, hm.sat, pt _ hb⟩ fun z hz => hg z (List.mem_append_right _ hz))
          · simp at h
        · rename_i h1 h2
          split at h
          · rename_i p q hp hq
            simp at h; subst h
            cases hb : ((base e).den S n.v).toBool with
            | true =>
              rw [dec_sound (pt _ hb) h1] at hev
              exact wp_cond_false hev (ihy Q _ p n o w a hp ⟨hm.tm, hm.sat, pt _ hb⟩ fun z hz => hg z (List.mem_append_left _ hz))
            | false =>
              rw [dec_sound (pt _ hb) h2] at hev
              exact wp_cond_true hev (ihx Q _ q n o w a hq ⟨hm.tm, hm.sat, pt _ hb⟩ fun z hz => hg z (List.mem_append_right _ hz))
          · simp at h
        · simp at h
    · simp at h
  | block bid body ih =>
    intro Q st ls n o w a h hm hg
    simp only [exec, Option.map_eq_some_iff] at h
    obtain ⟨l, hl, rfl⟩ := h
    refine wp_block (ih _ st l n o w a hl hm fun x hx => ?_)
    have g := hg _ (List.mem_map.2 ⟨x, hx, rfl⟩)
    obtain ⟨out, s⟩ := x
    unfold unblock at g
    cases out with
    | exit i =>
      by_cases hi : i = bid
      · subst hi
        simp only [if_true] at g
        intro n' o' a' w' e1 e2 e3 e4
        show Exit.inBlock i Q (.exit i) a' w'
        simp only [Exit.inBlock, if_true]
        exact g n' o' a' w' e1 e2 e3 e4
      · have : (Out.exit i = Out.exit bid) = False := by simp [hi]
        simp only [this, if_false] at g
        intro n' o' a' w' e1 e2 e3 e4
        show Exit.inBlock bid Q (.exit i) a' w'
        simp only [Exit.inBlock, hi, if_false]
        exact g n' o' a' w' e1 e2 e3 e4
    | _ => exact g
  | loop body ih =>
    intro Q st ls n o w a h hm hg
    exact wp_loop_rounds rounds (iter_sound (fun Q st ls n o w a => ih Q st ls n o w a) rounds st ls n o w a h hm hg)
  | goto l => intro Q st ls n o w a h; simp [exec] at h
  | scope b ih => intro Q st ls n o w a h; simp [exec] at h
  | rangeFunc f ps x y ihx ihy => intro Q st ls n o w a h; simp [exec] at h
  | refuse why => intro Q st ls n o w a h; simp [exec] at h

end Go.Sx

/- The symbolic executor, part 11: soundness of calls. -/
namespace Go.Sx
open Go
set_option linter.unusedSimpArgs false
set_option linter.unusedVariables false

variable {U : Type} {S : Sig U} {n n' n0 : Env U} {P : Program} {T : Tab} {w w' : World} {a : Act} {pa : Path} {tm : List SV} {H : SH} {nx id b0 : Nat} {o o' : Nat → Nat} {h h' : Array Obj} {st : St} {Q : Exit → Act → World → Prop} {K : Act → World → Prop} {ops : Array Oper} {call : CH} {hd : Held}

theorem getD_sound (hm : Tm S n tm a) (t : Nat) (h : (tm.getD t SV.undef).isAny = false) : a.tmps.getD t undef = (tm.getD t SV.undef).den S n := evx_sound hm (x := .tmp t) (by simp only [evx, h])

def resOf (tmps : Array Value) : ResultVar → Sem Value
  | .tmp t => pure (tmps.getD t undef)
  | .cell a t => do loadVar t (← asAddr (tmps.getD a undef))

theorem resx_sound (hT : T.ok P) (hm : Tm S n tm a) (hs : Sat S n o w.heap H) {r : ResultVar} {v : SV} (h : resx T H tm r = some v) : (resOf a.tmps r).run P w = .ok (v.den S n) w := by
  cases r with
  | tmp t =>
    simp only [resx] at h
    have := evx_sound hm h
    simp only [Act.eval] at this
    simp only [resOf, this, Sem.run_pure]
  | cell x t =>
    simp only [resx] at h
    split at h
    · rename_i u hu
      simp at h; subst h
      have h1 := loadx_sound (tm := tm) (nx := 0) hT (pa := []) (fun x hx => by cases hx) hs t (tm.getD x SV.undef)
      rw [hu] at h1
      have h1 : (Instr.loadAt t ((tm.getD x SV.undef).den S n)).run P w = .ok (u.den S n) w := h1
      have hp : (∃ id off, tm.getD x SV.undef = .one (.c (.ptr id off))) ∨ ∃ id o i sz fo, tm.getD x SV.undef = .one (.c (.rp id o i sz fo)) := by
        unfold loadx at hu
        split at hu
        · rename_i id o i sz fo ti hx hi; exact .inr ⟨id, o, i, sz, fo, hx⟩
        · rename_i id off i hx hi; exact .inl ⟨id, off, hx⟩
        · simp at hu
      rcases hp with ⟨id, off, hp⟩ | ⟨id, o, i, sz, fo, hp⟩
      · simp only [resOf, getD_sound hm x (by rw [hp]; rfl)]
        rw [hp] at h1 ⊢
        simpa [SV.den, S2.den, S1.den, asAddr, Instr.loadAt, Instr.sureAddr] using h1
      · simp only [resOf, getD_sound hm x (by rw [hp]; rfl)]
        rw [hp] at h1 ⊢
        simpa [SV.den, S2.den, S1.den, asAddr, Instr.loadAt, Instr.sureAddr] using h1
    · simp at h

theorem ress_sound (hT : T.ok P) (hm : Tm S n tm a) (hs : Sat S n o w.heap H) : ∀ {rs : List ResultVar} {vs : List SV}, ress T H tm rs = some vs →
    (rs.mapM (m := Sem) (resOf a.tmps)).run P w = .ok (vs.map (SV.den S n)) w
  | [], vs, h => by simp [ress] at h; subst h; rfl
  | r :: l, vs, h => by
    simp only [ress] at h
    split at h
    · rename_i v vs' hv hvs
      simp at h; subst h
      simp only [List.mapM_cons, Sem.run_bind, resx_sound hT hm hs hv, Result.andThen_ok, ress_sound hT hm hs hvs, Sem.run_pure, List.map_cons]
    · simp at h

theorem s2s_den : ∀ {vs : List SV} {l : List S2}, s2s vs = some l → vs.map (SV.den S n) = l.map (S2.den S n)
  | [], l, h => by simp [s2s] at h; subst h; rfl
  | v :: vs, l, h => by
    simp only [s2s] at h
    split at h
    · rename_i x r hx hr
      simp at h; subst h
      cases v with
      | one y => simp [s2Of] at hx; subst hx; simp [SV.den, s2s_den hr]
      | tup y => simp [s2Of] at hx
    · simp at h

theorem s2s_length : ∀ {vs : List SV} {l : List S2}, s2s vs = some l → l.length = vs.length := fun h => by
  have := congrArg List.length (s2s_den (U := Unit) (S := ⟨fun _ g => g, fun _ g _ => g, fun _ g _ _ => g, fun _ g _ _ _ => g, fun _ _ _ _ _ => True, fun _ _ _ _ _ _ _ _ _ => trivial⟩) (n := ⟨fun _ => .int 0, fun _ => 0, fun _ => .bool true, fun _ => rfl⟩) h)
  simpa using this.symm

theorem retx_sound (hT : T.ok P) (hm : Tm S n tm a) (hs : Sat S n o w.heap H) {fn : Func} {v : SV} (h : retx T H tm fn.results.toList = some v) :
    (results fn a.tmps).run P w = .ok (v.den S n) w := by
  have hmap : ∀ vs, ress T H tm fn.results.toList = some vs → (results fn a.tmps).run P w = .ok (if h : (vs.map (SV.den S n)).toArray.size = 1 then (vs.map (SV.den S n)).toArray[0] else .tuple (vs.map (SV.den S n)).toArray) w := by
    intro vs hvs
    have h1 := ress_sound (S := S) (n := n) hT hm hs hvs
    have h2 : (fn.results.mapM (m := Sem) (resOf a.tmps)).run P w = .ok (vs.map (SV.den S n)).toArray w := by
      rw [Array.mapM_eq_mapM_toList]
      simp only [Sem.run_map, h1, Result.andThen_ok]
    show Sem.run P (do let vs ← fn.results.mapM (resOf a.tmps); pure (if h : vs.size = 1 then vs[0] else .tuple vs)) w = _
    simp only [Sem.run_bind, h2, Result.andThen_ok, Sem.run_pure]
  unfold retx at h
  split at h
  · rename_i u hu
    simp at h; subst h
    rw [hmap _ hu]
    simp
  · rename_i vs hne hvs
    simp only [Option.map_eq_some_iff] at h
    obtain ⟨l, hl, rfl⟩ := h
    rw [hmap _ hvs]
    have hlen := s2s_length hl
    have h1 : ¬ (vs.map (SV.den S n)).toArray.size = 1 := by
      simp
      intro hc
      match vs, hc with
      | [x], _ => exact hne x rfl
    rw [dif_neg h1]
    simp only [SV.den, s2s_den hl]
  · simp at h

theorem gc_sub (nx : Nat) (v : SV) (H : SH) : ∀ p ∈ gc nx v H, p ∈ H := fun p hp => (List.mem_filter.1 hp).1

theorem outx_mem {rs : List ResultVar} : ∀ {ls : List Leaf} {cs : List CO}, outx T nx rs ls = some cs → ∀ x ∈ ls,
    (x.1 = .fail → ∃ c ∈ cs, c.ok = false ∧ c.pa = x.2.pa) ∧
    (x.1 = .norm ∨ x.1 = .ret → ∃ v, retx T x.2.H x.2.tm rs = some v ∧ (⟨true, v, gc nx v x.2.H, x.2.nx, x.2.pa⟩ : CO) ∈ cs) ∧ (∀ i, x.1 ≠ .exit i)
  | [], cs, h, x, hx => by cases hx
  | (out, st) :: l, cs, h, x, hx => by
    cases out with
    | fail =>
      simp only [outx, Option.map_eq_some_iff] at h
      obtain ⟨r, hr, rfl⟩ := h
      rcases List.mem_cons.1 hx with rfl | hx
      · exact ⟨fun _ => ⟨_, List.mem_cons_self .., rfl, rfl⟩, fun h => by simp at h, fun i => by simp⟩
      · obtain ⟨h1, h2, h3⟩ := outx_mem hr x hx
        refine ⟨fun hf => ?_, fun hf => ?_, h3⟩
        · obtain ⟨c, hc, h4⟩ := h1 hf; exact ⟨c, List.mem_cons_of_mem _ hc, h4⟩
        · obtain ⟨v, hv, hc⟩ := h2 hf; exact ⟨v, hv, List.mem_cons_of_mem _ hc⟩
    | exit i => simp [outx] at h
    | _ =>
      simp only [outx] at h
      split at h
      · rename_i v r hv hr
        simp at h; subst h
        rcases List.mem_cons.1 hx with rfl | hx
        · exact ⟨fun h => by simp at h, fun _ => ⟨v, hv, List.mem_cons_self ..⟩, fun i => by simp⟩
        · obtain ⟨h1, h2, h3⟩ := outx_mem hr x hx
          refine ⟨fun hf => ?_, fun hf => ?_, h3⟩
          · obtain ⟨c, hc, h4⟩ := h1 hf; exact ⟨c, List.mem_cons_of_mem _ hc, h4⟩
          · obtain ⟨v, hv, hc⟩ := h2 hf; exact ⟨v, hv, List.mem_cons_of_mem _ hc⟩
      · simp at h

/-- A function's text, carried out. -/
theorem body_sound (hT : T.ok P) (hc : CallOK S P call) {rounds : Nat} {f : FuncId} {i : FI} (hi : T.fi f = some i) {args : List SV} {ls : List Leaf} {cs : List CO}
    (he : exec T call rounds i.body ⟨args ++ List.replicate (i.ntmps - args.length) SV.undef, H, nx, pa⟩ = some ls) (ho : outx T nx i.results ls = some cs)
    (hp : PT S n.v pa) (hs : Sat S n o w.heap H) (hfail : ∀ c ∈ cs, c.ok = false → ¬ PT S n.v c.pa) :
    Calls P f (args.map (SV.den S n)).toArray w fun e w' => ∃ c ∈ cs, c.ok = true ∧ PT S n.v c.pa ∧
      ∃ n' o', e = .returned (c.ret.den S n') ∧ Sat S n' o' w'.heap c.H ∧ Fr w o w' o' ∧ Ext nx n n' ∧ nx ≤ c.nx := by
  obtain ⟨fn, hf, _, hb, hnt, hres⟩ := hT.fi f i hi
  refine calls_of_wp hf hb ?_
  have hm : Mt S n o ⟨args ++ List.replicate (i.ntmps - args.length) SV.undef, H, nx, pa⟩
      { tmps := (args.map (SV.den S n)).toArray ++ Array.replicate (fn.ntmps - (args.map (SV.den S n)).toArray.size) undef, defers := [] } w := by
    refine ⟨Tm.of_map ?_ rfl, hs, hp⟩
    rw [hnt]
    apply Array.ext'
    simp [SV.den, SV.undef, undef]
  refine exec_sound hT hc rounds _ _ _ ls n o w _ he hm fun x hx => ?_
  obtain ⟨h1, h2, h3⟩ := outx_mem ho x hx
  obtain ⟨out, s⟩ := x
  have fin : (out = .norm ∨ out = .ret) → ∀ n' o' a' w', Ext nx n n' → Fr w o w' o' → nx ≤ s.nx → Mt S n' o' s a' w' →
      a'.defers = [] ∧ ∃ v, (results fn a'.tmps).run P w' = .ok v w' ∧ ∃ c ∈ cs, c.ok = true ∧ PT S n.v c.pa ∧
      ∃ n' o', Ending.returned v = .returned (c.ret.den S n') ∧ Sat S n' o' w'.heap c.H ∧ Fr w o w' o' ∧ Ext nx n n' ∧ nx ≤ c.nx := by
    intro hout n' o' a' w' e1 e2 e3 e4
    obtain ⟨v, hv, hcm⟩ := h2 hout
    refine ⟨e4.tm.2, v.den S n', retx_sound hT e4.tm e4.sat (by rw [hres]; exact hv), _, hcm, rfl, by have := e4.pt; rw [e1.v] at this; exact this, n', o', rfl, fun p hp => e4.sat p (gc_sub _ _ _ p hp), e2, e1, e3⟩
  cases out with
  | norm => exact fun n' o' a' w' e1 e2 e3 e4 => fin (.inl rfl) n' o' a' w' e1 e2 e3 e4
  | ret => exact fun n' o' a' w' e1 e2 e3 e4 => fin (.inr rfl) n' o' a' w' e1 e2 e3 e4
  | exit j => exact absurd rfl (h3 j)
  | fail =>
    obtain ⟨c, hcm, hok, hpa⟩ := h1 rfl
    have := hfail c hcm hok
    rw [hpa] at this
    exact this

theorem callX_sound (hT : T.ok P) {tmpl : CH} (ht : CallOK S P tmpl) (rounds : Nat) : ∀ k, CallOK S P (callX T tmpl rounds k)
  | 0 => fun f args H nx pa cs h => ht f args H nx pa cs h
  | k + 1 => fun f args H nx pa cs h n o w hp hs hfail => by
    simp only [callX] at h
    split at h
    · rename_i r hr
      simp at h; subst h
      exact ht f args H nx pa _ hr n o w hp hs hfail
    · split at h
      · rename_i i hi
        split at h
        · rename_i ls hls
          exact body_sound hT (callX_sound hT ht rounds k) hi hls h hp hs hfail
        · simp at h
      · simp at h

theorem nop_ok : CallOK S P (fun _ _ _ _ _ => none) := fun f args H nx pa cs h => by simp at h

end Go.Sx

/- The symbolic executor, part 12: what is known of a callee, as a template; where it fits. -/
namespace Go.Sx
open Go
set_option linter.unusedSimpArgs false
set_option linter.unusedVariables false

variable {U : Type} {S : Sig U} {n n' n0 : Env U} {P : Program} {T : Tab} {w w' : World} {o o' o1 : Nat → Nat} {h h' : Array Obj} {H : SH} {nx id : Nat}

/-! ### substitution: expressions for variables, numbers for numbers -/
def E.sub (σ : Nat → E) : E → E
  | .var i => σ i
  | .int n => .int n
  | .bool b => .bool b
  | .o1 o a => .o1 o (a.sub σ)
  | .o2 o a b => .o2 o (a.sub σ) (b.sub σ)
  | .o3 o a b c => .o3 o (a.sub σ) (b.sub σ) (c.sub σ)
  | .f1 s a => .f1 s (a.sub σ)
  | .f2 s a b => .f2 s (a.sub σ) (b.sub σ)
  | .f3 s a b c => .f3 s (a.sub σ) (b.sub σ) (c.sub σ)
  | .f4 s a b c d => .f4 s (a.sub σ) (b.sub σ) (c.sub σ) (d.sub σ)

theorem E.den_sub (v : Nat → G U) (σ : Nat → E) (e : E) : (e.sub σ).den S v = e.den S (fun j => (σ j).den S v) := by
  induction e <;> simp [E.sub, E.den, *]

def S1.sub (σ : Nat → E) (τ : Nat → Nat) : S1 → S1
  | .int k e => .int k (e.sub σ)
  | .bool e => .bool (e.sub σ)
  | .nilp => .nilp
  | .ptr id off => .ptr (τ id) (off.sub σ)
  | .nils => .nils
  | .slice id off len cap => .slice (τ id) (off.sub σ) (len.sub σ) (cap.sub σ)
  | .niface => .niface
  | .ifp t id off => .ifp t (τ id) (off.sub σ)
  | .fn f => .fn f
  | .opq i => .opq i
  | .ifn t => .ifn t
  | .vec id cid len => .vec (τ id) (τ cid) (len.sub σ)
  | .chn id => .chn (τ id)
  | .clo f b y => .clo f b (y.map τ)
  | .rp id o i sz fo => .rp (τ id) (o.sub σ) (i.sub σ) sz fo
def S2.sub (σ : Nat → E) (τ : Nat → Nat) : S2 → S2
  | .c x => .c (x.sub σ τ)
  | .agg l => .agg (l.map (S1.sub σ τ))
def SV.sub (σ : Nat → E) (τ : Nat → Nat) : SV → SV
  | .one x => .one (x.sub σ τ)
  | .tup l => .tup (l.map (S2.sub σ τ))
def Blk.sub (σ : Nat → E) (τ : Nat → Nat) : Blk → Blk
  | .cells l => .cells (l.map (S1.sub σ τ))
  | .row k g => .row k (g.sub σ)
  | .res k g => .res k (g.sub σ)
  | .vec cid ks g => .vec (τ cid) ks (g.sub σ)
  | .chan cap g => .chan (cap.sub σ) (g.sub σ)
  | .inp ks off g x => .inp ks (off.sub σ) (g.sub σ) (x.sub σ)
def SH.sub (σ : Nat → E) (τ : Nat → Nat) (H : SH) : SH := H.map fun p => (τ p.1, p.2.sub σ τ)
def Path.sub (σ : Nat → E) (pa : Path) : Path := pa.map fun x => (x.1.sub σ, x.2)

/-- The environment that the substitution's result stands for. -/
def Env.pull (S : Sig U) (n : Env U) (σ : Nat → E) (τ : Nat → Nat) : Env U :=
  { v := fun j => (σ j).den S n.v, rho := fun j => n.rho (τ j), om := n.om, om1 := n.om1 }

section
variable (σ : Nat → E) (τ : Nat → Nat)
theorem S1.den_sub (x : S1) : (x.sub σ τ).den S n = x.den S (n.pull S σ τ) := by
  cases x
  case clo f b y => cases b <;> cases y <;> simp [S1.sub, S1.den, Env.pull, E.den_sub]
  all_goals simp [S1.sub, S1.den, Env.pull, E.den_sub]
theorem cellsDen_sub (l : List S1) : cellsDen S n (l.map (S1.sub σ τ)) = cellsDen S (n.pull S σ τ) l := by
  simp only [cellsDen, List.map_map]
  exact List.map_congr_left fun x _ => S1.den_sub σ τ x
theorem S2.den_sub (x : S2) : (x.sub σ τ).den S n = x.den S (n.pull S σ τ) := by
  cases x with
  | c x => exact S1.den_sub σ τ x
  | agg l => simp only [S2.sub, S2.den, cellsDen_sub]
theorem SV.den_sub (x : SV) : (x.sub σ τ).den S n = x.den S (n.pull S σ τ) := by
  cases x with
  | one x => exact S2.den_sub σ τ x
  | tup l =>
    simp only [SV.sub, SV.den, List.map_map]
    have : List.map (S2.den S n ∘ S2.sub σ τ) l = List.map (S2.den S (n.pull S σ τ)) l := List.map_congr_left fun x _ => S2.den_sub σ τ x
    rw [this]
theorem PT.sub_iff (pa : Path) : PT S n.v (pa.sub σ) ↔ PT S (n.pull S σ τ).v pa := by
  constructor
  · intro h x hx
    have := h (x.1.sub σ, x.2) (List.mem_map.2 ⟨x, hx, rfl⟩)
    rw [E.den_sub] at this
    exact this
  · intro h x hx
    obtain ⟨y, hy, rfl⟩ := List.mem_map.1 hx
    have := h y hy
    rw [E.den_sub]
    exact this

theorem Blk.holds_sub {b : Blk} {j : Nat} (hcol : ∀ x, x < h.size → (o1 x = j ↔ o x = τ j)) :
    b.holds S (n.pull S σ τ) o1 h j ↔ (b.sub σ τ).holds S n o h (τ j) := by
  cases b with
  | cells l =>
    simp only [Blk.holds, Blk.sub, cellsDen_sub, Env.pull]
    constructor
    · rintro ⟨h1, ty, h2⟩; exact ⟨(hcol _ (lt_size h2)).1 h1, ty, h2⟩
    · rintro ⟨h1, ty, h2⟩; exact ⟨(hcol _ (lt_size h2)).2 h1, ty, h2⟩
  | row k g =>
    simp only [Blk.holds, Blk.sub, E.den_sub, Env.pull]
    constructor
    · rintro ⟨h1, ty, h2⟩; exact ⟨(hcol _ (lt_size h2)).1 h1, ty, h2⟩
    · rintro ⟨h1, ty, h2⟩; exact ⟨(hcol _ (lt_size h2)).2 h1, ty, h2⟩
  | res k g =>
    simp only [Blk.holds, Blk.sub, E.den_sub, Env.pull]
    constructor
    · exact S.loc k _ _ h h _ _ fun x hx hd => ⟨(hcol x hx).1 hd, rfl⟩
    · exact S.loc k _ _ h h _ _ fun x hx hd => ⟨(hcol x hx).2 hd, rfl⟩
  | vec cid ks g =>
    simp only [Blk.holds, Blk.sub, E.den_sub, Env.pull]
    constructor
    · rintro ⟨h1, h0, hm, ty, rest, h2, h3⟩; exact ⟨(hcol _ (lt_size h2)).1 h1, h0, hm, ty, rest, h2, h3⟩
    · rintro ⟨h1, h0, hm, ty, rest, h2, h3⟩; exact ⟨(hcol _ (lt_size h2)).2 h1, h0, hm, ty, rest, h2, h3⟩
  | chan cap g =>
    simp only [Blk.holds, Blk.sub, E.den_sub, Env.pull]
    constructor
    · rintro ⟨h1, s, r, h2⟩; exact ⟨(hcol _ (lt_size h2)).1 h1, s, r, h2⟩
    · rintro ⟨h1, s, r, h2⟩; exact ⟨(hcol _ (lt_size h2)).2 h1, s, r, h2⟩
  | inp ks off g x =>
    simp only [Blk.holds, Blk.sub, E.den_sub, Env.pull]
    constructor
    · rintro ⟨h1, h0, hm, ob, h2, h3, h4⟩; exact ⟨(hcol _ (lt_size h3)).1 h1, h0, hm, ob, h2, h3, h4⟩
    · rintro ⟨h1, h0, hm, ob, h2, h3, h4⟩; exact ⟨(hcol _ (lt_size h3)).2 h1, h0, hm, ob, h2, h3, h4⟩
end

/-! ### which expressions, which numbers? -/
def mE : E → E → List (Nat × E)
  | .var j, e => [(j, e)]
  | .o1 _ a, .o1 _ a' => mE a a'
  | .o2 _ a b, .o2 _ a' b' => mE a a' ++ mE b b'
  | .o3 _ a b c, .o3 _ a' b' c' => mE a a' ++ mE b b' ++ mE c c'
  | .f1 _ a, .f1 _ a' => mE a a'
  | .f2 _ a b, .f2 _ a' b' => mE a a' ++ mE b b'
  | .f3 _ a b c, .f3 _ a' b' c' => mE a a' ++ mE b b' ++ mE c c'
  | .f4 _ a b c d, .f4 _ a' b' c' d' => mE a a' ++ mE b b' ++ mE c c' ++ mE d d'
  | _, _ => []
abbrev MB := List (Nat × E) × List (Nat × Nat)
def mS1 : S1 → S1 → MB
  | .int _ e, .int _ e' => (mE e e', [])
  | .bool e, .bool e' => (mE e e', [])
  | .ptr i e, .ptr i' e' => (mE e e', [(i, i')])
  | .slice i a b c, .slice i' a' b' c' => (mE a a' ++ mE b b' ++ mE c c', [(i, i')])
  | .ifp _ i e, .ifp _ i' e' => (mE e e', [(i, i')])
  | .vec i c e, .vec i' c' e' => (mE e e', [(i, i'), (c, c')])
  | .chn i, .chn i' => ([], [(i, i')])
  | .clo _ _ (some i), .clo _ _ (some i') => ([], [(i, i')])
  | .rp i a b _ _, .rp i' a' b' _ _ => (mE a a' ++ mE b b', [(i, i')])
  | _, _ => ([], [])
def mcat (a b : MB) : MB := (a.1 ++ b.1, a.2 ++ b.2)
def mL : List S1 → List S1 → MB
  | x :: l, y :: r => mcat (mS1 x y) (mL l r)
  | _, _ => ([], [])
def mS2 : S2 → S2 → MB
  | .c x, .c y => mS1 x y
  | .agg l, .agg r => mL l r
  | _, _ => ([], [])
def mSV : SV → SV → MB
  | .one x, .one y => mS2 x y
  | _, _ => ([], [])
def mSVs : List SV → List SV → MB
  | x :: l, y :: r => mcat (mSV x y) (mSVs l r)
  | _, _ => ([], [])
def mBlk : Blk → Blk → MB
  | .cells l, .cells r => mL l r
  | .row _ g, .row _ g' => (mE g g', [])
  | .res _ g, .res _ g' => (mE g g', [])
  | .vec c _ g, .vec c' _ g' => (mE g g', [(c, c')])
  | .chan a b, .chan a' b' => (mE a a' ++ mE b b', [])
  | .inp _ a b c, .inp _ a' b' c' => (mE a a' ++ mE b b' ++ mE c c', [])
  | _, _ => ([], [])
def sigOf (l : List (Nat × E)) (j : Nat) : E := ((l.find? fun x => x.1 == j).map (·.2)).getD (.int 0)
def tauOf (l : List (Nat × Nat)) (j : Nat) : Nat := ((l.find? fun x => x.1 == j).map (·.2)).getD 0
/-- The pieces of memory, one behind the other: their numbers are known by then. -/
def mH (H : SH) : SH → MB → MB
  | [], m => m
  | p :: r, m =>
    match H.get (tauOf m.2 p.1) with
    | some b => mH H r (mcat m (mBlk p.2 b))
    | none => mH H r m

/-! ### templates -/
structure Tmpl where
  args : List SV
  pre : SH
  nx : Nat
  outs : List CO

/-- What a template says of a function. -/
def Tmpl.ok (S : Sig U) (P : Program) (f : FuncId) (t : Tmpl) : Prop :=
  ∀ (n : Env U) (o : Nat → Nat) (w : World), Sat S n o w.heap t.pre → (∀ c ∈ t.outs, c.ok = false → ¬ PT S n.v c.pa) →
    Calls P f (t.args.map (SV.den S n)).toArray w fun e w' => ∃ c ∈ t.outs, c.ok = true ∧ PT S n.v c.pa ∧
      ∃ n' o', e = .returned (c.ret.den S n') ∧ Sat S n' o' w'.heap c.H ∧ Fr w o w' o' ∧ Ext t.nx n n'

def ids (H : SH) : List Nat := H.map (·.1)
def nodupB : List Nat → Bool
  | [] => true
  | x :: l => !(l.contains x) && nodupB l

/-- The numbers behind the call: what is new is numbered from nx on. -/
def tau' (τ : Nat → Nat) (k nx : Nat) (j : Nat) : Nat := if j < k then τ j else nx + (j - k)

def SH.join (H : SH) : SH → SH
  | [] => H
  | p :: r => SH.new (SH.join H r) p.1 p.2

def coSub (σ : Nat → E) (τ : Nat → Nat) (k : Nat) (H : SH) (nx : Nat) (pa : Path) (pre : List Nat) (c : CO) : CO :=
  if c.ok then ⟨true, c.ret.sub σ (tau' τ k nx), SH.join (H.filter fun p => !(pre.contains p.1)) (c.H.sub σ (tau' τ k nx)), nx + (c.nx - k), c.pa.sub σ ++ pa⟩
  else ⟨false, SV.undef, [], 0, c.pa.sub σ ++ pa⟩

def coFit (τ : Nat → Nat) (k nx : Nat) (pre : List Nat) (c : CO) : Bool :=
  !c.ok || (nodupB ((ids c.H).map (tau' τ k nx)) && (ids c.H).all (fun j => decide (0 < j) && (pre.contains j || decide (k ≤ j))))

def Tmpl.at (t : Tmpl) (args : List SV) (H : SH) (nx : Nat) (pa : Path) : Option (List CO) :=
  let m := mH H t.pre (mSVs t.args args)
  let σ := sigOf m.1
  let τ := tauOf m.2
  let pre := (ids t.pre).map τ
  if decide (t.args.map (SV.sub σ τ) = args) && t.pre.all (fun p => decide (0 < p.1) && decide (p.1 < t.nx) && decide (H.get (τ p.1) = some (p.2.sub σ τ)) && decide (τ p.1 < nx))
    && nodupB pre && H.lt nx && decide (0 < nx) && m.2.all (fun x => decide (x.2 < nx)) && t.outs.all (coFit τ t.nx nx (ids t.pre)) then
    some (t.outs.map (coSub σ τ t.nx H nx pa pre))
  else none

theorem nodupB_inj {f : Nat → Nat} : ∀ {l : List Nat}, nodupB (l.map f) = true → ∀ x ∈ l, ∀ y ∈ l, f x = f y → x = y
  | [], _, x, hx, _, _, _ => by cases hx
  | z :: l, h, x, hx, y, hy, he => by
    simp only [List.map_cons, nodupB, Bool.and_eq_true, Bool.not_eq_true'] at h
    obtain ⟨h1, h2⟩ := h
    have h1 : ∀ u ∈ l, f u ≠ f z := fun u hu hc => by
      have : (l.map f).contains (f z) = true := by
        rw [List.contains_iff_mem]
        exact List.mem_map.2 ⟨u, hu, hc⟩
      rw [this] at h1
      exact absurd h1 (by simp)
    rcases List.mem_cons.1 hx with hx' | hx' <;> rcases List.mem_cons.1 hy with hy' | hy'
    · rw [hx', hy']
    · exact absurd (by rw [← he, hx']) (h1 y hy')
    · exact absurd (by rw [he, hy']) (h1 x hx')
    · exact nodupB_inj h2 x hx' y hy' he

theorem SH.mem_new {H : SH} {i : Nat} {b : Blk} {p : Nat × Blk} (h : p ∈ H.new i b) : p = (i, b) ∨ p ∈ H := by
  unfold SH.new at h
  rcases List.mem_append.1 h with h | h
  · exact .inr (List.mem_filter.1 h).1
  · rcases List.mem_cons.1 h with h | h
    · exact .inl h
    · exact .inr (List.mem_filter.1 h).1

theorem SH.mem_join {H : SH} : ∀ {r : SH} {p : Nat × Blk}, p ∈ SH.join H r → p ∈ r ∨ p ∈ H
  | [], p, h => .inr h
  | q :: r, p, h => by
    rcases SH.mem_new h with h | h
    · exact .inl (by rw [h]; exact List.mem_cons_self ..)
    · rcases SH.mem_join h with h | h
      · exact .inl (List.mem_cons_of_mem _ h)
      · exact .inr h

theorem Sat.join {r : SH} (h1 : Sat S n o h H) (h2 : Sat S n o h r) : Sat S n o h (SH.join H r) := fun p hp => by
  rcases SH.mem_join hp with hp | hp
  · exact h2 p hp
  · exact h1 p hp

/-- Where a pattern fits: what it says may be read off, what is said of it behind may be put back. -/
theorem match_core {pre : SH} {k : Nat} {σ : Nat → E} {τ : Nat → Nat} (hs : Sat S n o w.heap H)
    (hpre : ∀ p ∈ pre, ((0 < p.1 ∧ p.1 < k) ∧ H.get (τ p.1) = some (p.2.sub σ τ)) ∧ τ p.1 < nx)
    (hnd : nodupB ((ids pre).map τ) = true) (hlt : H.lt nx = true) (h0nx : 0 < nx) (htau : ∀ j, τ j < nx) :
    ∃ o1, Sat S (n.pull S σ τ) o1 w.heap pre ∧
      ∀ (cH : SH) (w' : World) (n1 : Env U) (ob : Nat → Nat), nodupB ((ids cH).map (tau' τ k nx)) = true →
        (∀ j ∈ ids cH, 0 < j ∧ ((ids pre).contains j = true ∨ k ≤ j)) → Sat S n1 ob w'.heap cH → Fr w o1 w' ob → Ext k (n.pull S σ τ) n1 →
        ∃ n2 o2, n2.pull S σ (tau' τ k nx) = n1 ∧
          Sat S n2 o2 w'.heap (SH.join (H.filter fun p => !(((ids pre).map τ).contains p.1)) (cH.sub σ (tau' τ k nx))) ∧ Fr w o w' o2 ∧ Ext nx n n2 := by
  -- the colours of the template's pieces
  have hex : ∀ x : Nat, ∃ j : Nat, (∃ i ∈ ids pre, τ i = o x ∧ j = i) ∨ ((∀ i ∈ ids pre, τ i ≠ o x) ∧ j = 0) := by
    intro x
    by_cases hx : ∃ i ∈ ids pre, τ i = o x
    · obtain ⟨i, hi, e⟩ := hx; exact ⟨i, .inl ⟨i, hi, e, rfl⟩⟩
    · exact ⟨0, .inr ⟨fun i hi e => hx ⟨i, hi, e⟩, rfl⟩⟩
  obtain ⟨o1, ho1⟩ := Classical.axiomOfChoice hex
  have hpos : ∀ i ∈ ids pre, 0 < i ∧ i < k ∧ τ i < nx := by
    intro i hi
    obtain ⟨p, hp, rfl⟩ := List.mem_map.1 hi
    obtain ⟨⟨⟨h1, h2⟩, _⟩, h4⟩ := hpre p hp
    exact ⟨h1, h2, h4⟩
  have hinj := nodupB_inj hnd
  have hcol : ∀ i ∈ ids pre, ∀ x, (o1 x = i ↔ o x = τ i) := by
    intro i hi x
    rcases ho1 x with ⟨k, hk, e1, e2⟩ | ⟨h1, h2⟩
    · constructor
      · intro e; rw [← e, e2, e1]
      · intro e; rw [e2]; exact hinj k hk i hi (by rw [e1, e])
    · constructor
      · intro e; have := (hpos i hi).1; omega
      · intro e; exact absurd e.symm (h1 i hi)
  have hcol0 : ∀ x, o1 x = 0 ↔ ∀ i ∈ ids pre, τ i ≠ o x := by
    intro x
    rcases ho1 x with ⟨k, hk, e1, e2⟩ | ⟨h1, h2⟩
    · constructor
      · intro e; have := (hpos k hk).1; omega
      · intro e; exact absurd e1 (e k hk)
    · exact ⟨fun _ => h1, fun _ => h2⟩
  have hsat1 : Sat S (n.pull S σ τ) o1 w.heap pre := by
    intro p hp
    obtain ⟨⟨⟨h1, _⟩, h3⟩, _⟩ := hpre p hp
    exact ⟨h1, (Blk.holds_sub σ τ fun x _ => hcol p.1 (List.mem_map.2 ⟨p, hp, rfl⟩) x).2 (hs.get h3).2⟩
  refine ⟨o1, hsat1, ?_⟩
  intro cH w' n1 ob hnd2 hall hs1 hfr hext
  have hinj2 := nodupB_inj hnd2
  -- the new environment
  let n2 : Env U := { v := n.v, rho := fun i => if i < nx then n.rho i else n1.rho (i - nx + k), om := n.om, om1 := n.om1 }
  have hpull : ∀ j, n2.rho (tau' τ k nx j) = n1.rho j := by
    intro j
    unfold tau'
    by_cases hjk : j < k
    · rw [if_pos hjk]
      show (if τ j < nx then n.rho (τ j) else _) = _
      rw [if_pos (htau j), hext.rho j hjk]
      rfl
    · rw [if_neg hjk]
      show (if nx + (j - k) < nx then _ else n1.rho (nx + (j - k) - nx + k)) = _
      rw [if_neg (by omega), show nx + (j - k) - nx + k = j by omega]
  have henv : n2.pull S σ (tau' τ k nx) = n1 := by
    have h1 : (n2.pull S σ (tau' τ k nx)).v = n1.v := by rw [hext.v]; rfl
    have h2 : (n2.pull S σ (tau' τ k nx)).rho = n1.rho := funext hpull
    have h3 : (n2.pull S σ (tau' τ k nx)).om = n1.om := by rw [hext.om]; rfl
    generalize n2.pull S σ (tau' τ k nx) = m1 at h1 h2 h3
    cases m1; cases n1
    simp only at h1 h2 h3
    subst h1; subst h2; subst h3
    rfl
  have hext2 : Ext nx n n2 := ⟨rfl, rfl, fun i hi => by show (if i < nx then n.rho i else _) = _; rw [if_pos hi]⟩
  -- the new colours
  have hex2 : ∀ x : Nat, ∃ y : Nat, (ob x ∈ ids cH ∧ y = tau' τ k nx (ob x)) ∨ (ob x ∉ ids cH ∧ o x ∈ ids (H.filter fun p => !(((ids pre).map τ).contains p.1)) ∧ y = o x) ∨
      (ob x ∉ ids cH ∧ o x ∉ ids (H.filter fun p => !(((ids pre).map τ).contains p.1)) ∧ y = 0) := by
    intro x
    by_cases h1 : ob x ∈ ids cH
    · exact ⟨_, .inl ⟨h1, rfl⟩⟩
    · by_cases h2 : o x ∈ ids (H.filter fun p => !(((ids pre).map τ).contains p.1))
      · exact ⟨_, .inr (.inl ⟨h1, h2, rfl⟩)⟩
      · exact ⟨_, .inr (.inr ⟨h1, h2, rfl⟩)⟩
  obtain ⟨o2, ho2⟩ := Classical.axiomOfChoice hex2
  have hrest : ∀ i ∈ ids (H.filter fun p => !(((ids pre).map τ).contains p.1)), (∀ j ∈ ids pre, τ j ≠ i) ∧ i < nx ∧ 0 < i := by
    intro i hi
    obtain ⟨p, hp, rfl⟩ := List.mem_map.1 hi
    obtain ⟨hp1, hp2⟩ := List.mem_filter.1 hp
    refine ⟨fun j hj he => ?_, ?_, (hs p hp1).1⟩
    · simp only [Bool.not_eq_true'] at hp2
      have : ((ids pre).map τ).contains p.1 = true := by rw [List.contains_iff_mem]; exact List.mem_map.2 ⟨j, hj, he⟩
      rw [this] at hp2; exact absurd hp2 (by simp)
    · have := List.all_eq_true.1 hlt p hp1
      simp only [Bool.and_eq_true, decide_eq_true_eq] at this
      exact this.1
  have hnotrest : ∀ j ∈ ids cH, tau' τ k nx j ∉ ids (H.filter fun p => !(((ids pre).map τ).contains p.1)) := by
    intro j hj hm
    obtain ⟨h1, h2, h3⟩ := hrest _ hm
    rcases (hall j hj).2 with h4 | h4
    · rw [List.contains_iff_mem] at h4
      have := (hpos j h4).2.1
      unfold tau' at h1
      rw [if_pos this] at h1
      exact h1 j h4 rfl
    · unfold tau' at h2
      rw [if_neg (by omega)] at h2
      omega
  refine ⟨n2, o2, henv, ?_, ?_, hext2⟩
  · refine Sat.join ?_ ?_
    · intro p hp
      have hp1 := (List.mem_filter.1 hp).1
      obtain ⟨h1, h2⟩ := hs p hp1
      have hlp := List.all_eq_true.1 hlt p hp1
      simp only [Bool.and_eq_true, decide_eq_true_eq] at hlp
      refine ⟨h1, Blk.keep hext2.v (hext2.rho _ hlp.1) ⟨fun l hl => ?_, fun c ks g hl => ?_⟩ (fun x hx hox => ?_) h2⟩
      · have := hlp.2
        rw [hl] at this
        exact cellsDen_ext hext2 this
      · have := hlp.2
        rw [hl] at this
        simp only [Blk.lt, decide_eq_true_eq] at this
        exact hext2.rho _ this
      · have hmem : p.1 ∈ ids (H.filter fun p => !(((ids pre).map τ).contains p.1)) := List.mem_map.2 ⟨p, hp, rfl⟩
        have h0 : o1 x = 0 := (hcol0 x).2 fun i hi => by rw [hox]; exact (hrest p.1 hmem).1 i hi
        obtain ⟨h3, h4⟩ := hfr.same x hx h0
        refine ⟨?_, h4⟩
        rcases ho2 x with ⟨h5, _⟩ | ⟨_, _, h7⟩ | ⟨_, h6, _⟩
        · rw [h3] at h5; have := (hall 0 h5).1; omega
        · rw [h7, hox]
        · rw [hox] at h6; exact absurd hmem h6
    · intro p hp
      obtain ⟨q, hq, rfl⟩ := List.mem_map.1 hp
      obtain ⟨h1, h2⟩ := hs1 q hq
      have hqi : q.1 ∈ ids cH := List.mem_map.2 ⟨q, hq, rfl⟩
      have hcol2 : ∀ x, x < w'.heap.size → (ob x = q.1 ↔ o2 x = tau' τ k nx q.1) := by
        intro x _
        rcases ho2 x with ⟨h5, h6⟩ | ⟨h5, h6, h7⟩ | ⟨h5, h6, h7⟩
        · constructor
          · intro e; rw [h6, e]
          · intro e; rw [h6] at e; exact hinj2 _ h5 _ hqi e
        · constructor
          · intro e; rw [e] at h5; exact absurd hqi h5
          · intro e; rw [h7] at e; rw [e] at h6; exact absurd h6 (hnotrest _ hqi)
        · constructor
          · intro e; rw [e] at h5; exact absurd hqi h5
          · intro e
            rw [h7] at e
            exfalso
            rcases (hall _ hqi).2 with h8 | h8
            · rw [List.contains_iff_mem] at h8
              have h9 := hpos _ h8
              unfold tau' at e
              rw [if_pos h9.2.1] at e
              obtain ⟨r, hr, e2⟩ := List.mem_map.1 h8
              have := hs.get (hpre r hr).1.2
              rw [e2] at this
              omega
            · unfold tau' at e
              rw [if_neg (by omega)] at e
              omega
      refine ⟨?_, ?_⟩
      · show 0 < tau' τ k nx q.1
        rcases (hall _ hqi).2 with h8 | h8
        · rw [List.contains_iff_mem] at h8
          have h9 := hpos _ h8
          obtain ⟨r, hr, e2⟩ := List.mem_map.1 h8
          have := (hs.get (hpre r hr).1.2).1
          rw [e2] at this
          unfold tau'
          rw [if_pos h9.2.1]
          exact this
        · unfold tau'
          rw [if_neg (by omega)]
          omega
      · rw [← henv] at h2
        exact (Blk.holds_sub σ (tau' τ k nx) hcol2).1 h2
  · refine ⟨hfr.os, hfr.tape, hfr.output, hfr.size, fun x hx h0 => ?_⟩
    have h1 : o1 x = 0 := (hcol0 x).2 fun i hi => by
      rw [h0]
      obtain ⟨r, hr, e2⟩ := List.mem_map.1 hi
      have := (hs.get (hpre r hr).1.2).1
      rw [e2] at this
      omega
    obtain ⟨h3, h4⟩ := hfr.same x hx h1
    refine ⟨?_, h4⟩
    rcases ho2 x with ⟨h5, _⟩ | ⟨_, h6, h7⟩ | ⟨_, _, h7⟩
    · rw [h3] at h5; have := (hall 0 h5).1; omega
    · rw [h7, h0]
    · exact h7


theorem Tmpl.at_sound {f : FuncId} {t : Tmpl} (ht : t.ok S P f) {args : List SV} {pa : Path} {cs : List CO} (hat : t.at args H nx pa = some cs)
    (hp : PT S n.v pa) (hs : Sat S n o w.heap H) (hfail : ∀ c ∈ cs, c.ok = false → ¬ PT S n.v c.pa) :
    Calls P f (args.map (SV.den S n)).toArray w fun e w' => ∃ c ∈ cs, c.ok = true ∧ PT S n.v c.pa ∧
      ∃ n' o', e = .returned (c.ret.den S n') ∧ Sat S n' o' w'.heap c.H ∧ Fr w o w' o' ∧ Ext nx n n' ∧ nx ≤ c.nx := by
  unfold Tmpl.at at hat
  simp only at hat
  split at hat
  case isFalse => simp at hat
  rename_i hc
  simp only [Option.some.injEq] at hat
  generalize mH H t.pre (mSVs t.args args) = m at *
  have htau : (∀ x ∈ m.2, x.2 < nx) → 0 < nx → ∀ j, tauOf m.2 j < nx := by
    intro h1 h2 j
    unfold tauOf
    cases hf : m.2.find? (fun x => x.1 == j) with
    | none => simpa using h2
    | some x => simpa using h1 x (List.mem_of_find?_eq_some hf)
  generalize sigOf _ = σ at *
  generalize tauOf _ = τ at *
  subst hat
  simp only [Bool.and_eq_true, decide_eq_true_eq, List.all_eq_true] at hc
  obtain ⟨⟨⟨⟨⟨⟨hargs, hpre⟩, hnd⟩, hlt⟩, h0nx⟩, hmb⟩, hfit⟩ := hc
  have htau := htau hmb h0nx
  obtain ⟨o1, hsat1, hback⟩ := match_core (k := t.nx) hs hpre hnd hlt h0nx htau
  have hden : (t.args.map (SV.den S (n.pull S σ τ))) = args.map (SV.den S n) := by
    rw [← hargs, List.map_map]
    exact List.map_congr_left fun x _ => (SV.den_sub σ τ x).symm
  have hcall := ht (n.pull S σ τ) o1 w hsat1 (fun c hcm hok hpt => by
    refine hfail _ (List.mem_map.2 ⟨c, hcm, rfl⟩) (by simp [coSub, hok]) ?_
    simp only [coSub, hok, Bool.false_eq_true, if_false]
    intro x hx
    rcases List.mem_append.1 hx with hx | hx
    · exact (PT.sub_iff (n := n) σ τ c.pa).2 hpt x hx
    · exact hp x hx)
  rw [hden] at hcall
  refine Calls.mono hcall ?_
  rintro e w' ⟨c, hcm, hok, hpt, n1, ob, rfl, hs1, hfr, hext⟩
  have hcf := hfit c hcm
  simp only [coFit, hok, Bool.not_true, Bool.false_or, Bool.and_eq_true, List.all_eq_true, decide_eq_true_eq, Bool.or_eq_true] at hcf
  obtain ⟨hnd2, hall⟩ := hcf
  obtain ⟨n2, o2, henv, hsat2, hfr2, hext2⟩ := hback c.H w' n1 ob hnd2 hall hs1 hfr hext
  refine ⟨_, List.mem_map.2 ⟨c, hcm, rfl⟩, by simp [coSub, hok], ?_, ?_⟩
  · simp only [coSub, hok, if_true]
    intro x hx
    rcases List.mem_append.1 hx with hx | hx
    · exact (PT.sub_iff (n := n) σ τ c.pa).2 hpt x hx
    · exact hp x hx
  simp only [coSub, hok, if_true]
  exact ⟨n2, o2, by rw [SV.den_sub, henv], hsat2, hfr2, hext2, Nat.le_add_right _ _⟩

end Go.Sx

/- The symbolic executor, part 13: kinds of objects: a piece of memory whose inside is told by one of several shapes. -/
namespace Go.Sx
open Go
set_option linter.unusedSimpArgs false
set_option linter.unusedVariables false

variable {U : Type}

structure Shape (U : Type) where
  H : SH
  enc : (Nat → G U) → G U
  /-- what holds of its variables besides -/
  inv : (Nat → G U) → Prop := fun _ => True

structure Lang (U : Type) where
  f1 : Nat → G U → G U
  f2 : Nat → G U → G U → G U
  f3 : Nat → G U → G U → G U → G U
  f4 : Nat → G U → G U → G U → G U → G U
  kinds : Nat → List (Shape U)

abbrev Res (U : Type) := Nat → G U → Nat → Array Obj → (Nat → Prop) → Prop
def Loc (r : Res U) : Prop := ∀ k g x (h h' : Array Obj) (D D' : Nat → Prop), (∀ b, b < h.size → D b → D' b ∧ h'[b]? = h[b]?) → r k g x h D → r k g x h' D'

def Lang.mk' (L : Lang U) (r : Res U) (hr : Loc r) : Sig U := ⟨L.f1, L.f2, L.f3, L.f4, r, hr⟩

def Lang.next (L : Lang U) (k : Nat) (r : Res U) (hr : Loc r) : Res U := fun j g x h D =>
  if j < k then r j g x h D
  else if j = k then ∃ sh ∈ L.kinds k, ∃ (n : Env U) (o : Nat → Nat), n.rho 1 = x ∧ (g = sh.enc n.v ∧ sh.inv n.v) ∧ Sat (L.mk' r hr) n o h sh.H ∧ ∀ b, b < h.size → o b ≠ 0 → D b
  else False

theorem Lang.next_loc (L : Lang U) (k : Nat) (r : Res U) (hr : Loc r) : Loc (L.next k r hr) := by
  intro j g x h h' D D' hD hh
  unfold Lang.next at *
  split
  · rename_i hj; rw [if_pos hj] at hh; exact hr j g x h h' D D' hD hh
  · rename_i hj
    rw [if_neg hj] at hh
    split
    · rename_i hk
      rw [if_pos hk] at hh
      obtain ⟨sh, hsh, n, o, h1, h2, h3, h4⟩ := hh
      refine ⟨sh, hsh, n, fun b => if b < h.size then o b else 0, h1, h2, h3.keep fun i hi ho => ?_, fun b _ hb => ?_⟩
      · rw [if_pos hi]; exact ⟨rfl, (hD i hi (h4 i hi ho)).2⟩
      · have hb : (if b < h.size then o b else 0) ≠ 0 := hb
        by_cases hbs : b < h.size
        · rw [if_pos hbs] at hb; exact (hD b hbs (h4 b hbs hb)).1
        · rw [if_neg hbs] at hb; exact absurd rfl hb
    · rename_i hk; rw [if_neg hk] at hh; exact hh.elim

def Lang.rl (L : Lang U) : Nat → { r : Res U // Loc r }
  | 0 => ⟨fun _ _ _ _ _ => False, fun _ _ _ _ _ _ _ _ h => h⟩
  | k + 1 => ⟨L.next k (L.rl k).1 (L.rl k).2, L.next_loc k _ _⟩

def Lang.sig (L : Lang U) (k : Nat) : Sig U := L.mk' (L.rl k).1 (L.rl k).2

theorem Lang.res_stable (L : Lang U) {j k : Nat} (hj : j < k) : ∀ m, k ≤ m → (L.sig m).res j = (L.sig k).res j := by
  intro m hm
  induction m with
  | zero => omega
  | succ m ih =>
    rcases Nat.lt_or_ge m k with h | h
    · have : m + 1 = k := by omega
      rw [this]
    · rw [← ih h]
      funext g x h' D
      show L.next m _ _ j g x h' D = _
      unfold Lang.next
      rw [if_pos (by omega)]
      rfl

theorem Lang.res_iff (L : Lang U) {N k : Nat} (hk : k < N) (g : G U) (x : Nat) (h : Array Obj) (D : Nat → Prop) :
    (L.sig N).res k g x h D ↔ ∃ sh ∈ L.kinds k, ∃ (n : Env U) (o : Nat → Nat), n.rho 1 = x ∧ (g = sh.enc n.v ∧ sh.inv n.v) ∧ Sat (L.sig k) n o h sh.H ∧ ∀ b, b < h.size → o b ≠ 0 → D b := by
  rw [L.res_stable (Nat.lt_succ_self k) N hk]
  show L.next k _ _ k g x h D ↔ _
  unfold Lang.next
  rw [if_neg (Nat.lt_irrefl k), if_pos rfl]
  rfl

section congr
variable {L : Lang U} {r r' : Res U} {hr : Loc r} {hr' : Loc r'}
theorem E.den_mk (e : E) (v : Nat → G U) : e.den (L.mk' r hr) v = e.den (L.mk' r' hr') v := by
  induction e <;> simp [E.den, *] <;> rfl
theorem S1.den_mk (n : Env U) (x : S1) : x.den (L.mk' r hr) n = x.den (L.mk' r' hr') n := by
  cases x
  case clo f b y => cases b <;> cases y <;> rfl
  all_goals simp [S1.den, E.den_mk (L := L) (r := r) (r' := r') (hr := hr) (hr' := hr')]
theorem cellsDen_mk (n : Env U) (l : List S1) : cellsDen (L.mk' r hr) n l = cellsDen (L.mk' r' hr') n l :=
  List.map_congr_left fun x _ => S1.den_mk n x
end congr

/-- Kinds of what stands in a memory are below k. -/
def Blk.klt (k : Nat) : Blk → Bool
  | .res j _ => decide (j < k)
  | _ => true
def SH.klt (k : Nat) (H : SH) : Bool := H.all fun p => p.2.klt k

theorem Sat.sig {L : Lang U} {k m : Nat} {n : Env U} {o : Nat → Nat} {h : Array Obj} {H : SH} (hkm : k ≤ m) (hkl : H.klt k = true) :
    Sat (L.sig k) n o h H ↔ Sat (L.sig m) n o h H := by
  have one : ∀ p ∈ H, p.2.holds (L.sig k) n o h p.1 ↔ p.2.holds (L.sig m) n o h p.1 := by
    intro p hp
    have hl := List.all_eq_true.1 hkl p hp
    obtain ⟨i, b⟩ := p
    cases b with
    | cells l => simp only [Blk.holds]; rw [show cellsDen (L.sig k) n l = cellsDen (L.sig m) n l from cellsDen_mk n l]
    | row rk g => simp only [Blk.holds]; rw [show g.den (L.sig k) n.v = g.den (L.sig m) n.v from E.den_mk g n.v]
    | res j g =>
      simp only [Blk.klt, decide_eq_true_eq] at hl
      simp only [Blk.holds]
      rw [show g.den (L.sig k) n.v = g.den (L.sig m) n.v from E.den_mk g n.v, L.res_stable hl m hkm]
    | vec c ks g => simp only [Blk.holds]; rw [show g.den (L.sig k) n.v = g.den (L.sig m) n.v from E.den_mk g n.v]
    | chan a g => simp only [Blk.holds]; rw [show g.den (L.sig k) n.v = g.den (L.sig m) n.v from E.den_mk g n.v, show a.den (L.sig k) n.v = a.den (L.sig m) n.v from E.den_mk a n.v]
    | inp ks a g x => simp only [Blk.holds]; rw [show g.den (L.sig k) n.v = g.den (L.sig m) n.v from E.den_mk g n.v, show a.den (L.sig k) n.v = a.den (L.sig m) n.v from E.den_mk a n.v, show x.den (L.sig k) n.v = x.den (L.sig m) n.v from E.den_mk x n.v]
  exact ⟨fun hs p hp => ⟨(hs p hp).1, (one p hp).1 (hs p hp).2⟩, fun hs p hp => ⟨(hs p hp).1, (one p hp).2 (hs p hp).2⟩⟩

/-! ### variables below a bound; no opaque values -/
def E.vlt (a : Nat) : E → Bool
  | .var i => decide (i < a)
  | .int _ | .bool _ => true
  | .o1 _ x => x.vlt a
  | .o2 _ x y => x.vlt a && y.vlt a
  | .o3 _ x y z => x.vlt a && y.vlt a && z.vlt a
  | .f1 _ x => x.vlt a
  | .f2 _ x y => x.vlt a && y.vlt a
  | .f3 _ x y z => x.vlt a && y.vlt a && z.vlt a
  | .f4 _ x y z u => x.vlt a && y.vlt a && z.vlt a && u.vlt a
def S1.vlt (a : Nat) : S1 → Bool
  | .int _ e | .bool e => e.vlt a
  | .ptr _ e | .ifp _ _ e => e.vlt a
  | .slice _ x y z => x.vlt a && y.vlt a && z.vlt a
  | .vec _ _ e => e.vlt a
  | .rp _ x y _ _ => x.vlt a && y.vlt a
  | _ => true
def S2.vlt (a : Nat) : S2 → Bool
  | .c x => x.vlt a
  | .agg l => l.all (S1.vlt a)
def SV.vlt (a : Nat) : SV → Bool
  | .one x => x.vlt a
  | .tup l => l.all (S2.vlt a)
def Blk.vlt (a : Nat) : Blk → Bool
  | .cells l => l.all (S1.vlt a)
  | .row _ g | .res _ g | .vec _ _ g => g.vlt a
  | .chan x y => x.vlt a && y.vlt a
  | .inp _ x y z => x.vlt a && y.vlt a && z.vlt a
def SH.vlt (a : Nat) (H : SH) : Bool := H.all fun p => p.2.vlt a
def S1.plain : S1 → Bool
  | .opq _ => false
  | _ => true
def Blk.plain : Blk → Bool
  | .cells l => l.all S1.plain
  | _ => true
def SH.plain (H : SH) : Bool := H.all fun p => p.2.plain

variable {S : Sig U} {n n' : Env U} {a b : Nat} {o o' : Nat → Nat} {h : Array Obj}

theorem E.den_vlt {v v' : Nat → G U} (hv : ∀ i, i < a → v i = v' i) {e : E} (he : e.vlt a = true) : e.den S v = e.den S v' := by
  induction e <;> simp [E.vlt, E.den] at * <;> simp [*]

/-- n and n' mean the same by variables below a and numbers below b. -/
structure Env.like (a b : Nat) (n n' : Env U) : Prop where
  v : ∀ i, i < a → n.v i = n'.v i
  rho : ∀ i, i < b → n.rho i = n'.rho i
  om : n.om = n'.om

theorem S1.den_like (hl : Env.like a b n n') {x : S1} (h1 : x.vlt a = true) (h2 : x.lt b = true) : x.den S n = x.den S n' := by
  cases x
  case clo f b y => cases b <;> cases y <;> simp [S1.vlt, S1.lt, S1.den] at * <;> simp [hl.rho, *]
  all_goals simp [S1.vlt, S1.lt, S1.den] at * <;> simp [hl.om, hl.rho, E.den_vlt hl.v, *]
theorem cellsDen_like (hl : Env.like a b n n') {l : List S1} (h1 : l.all (S1.vlt a) = true) (h2 : l.all (S1.lt b) = true) : cellsDen S n l = cellsDen S n' l :=
  List.map_congr_left fun x hx => S1.den_like hl (List.all_eq_true.1 h1 x hx) (List.all_eq_true.1 h2 x hx)
theorem S2.den_like (hl : Env.like a b n n') {x : S2} (h1 : x.vlt a = true) (h2 : x.lt b = true) : x.den S n = x.den S n' := by
  cases x with
  | c x => exact S1.den_like hl h1 h2
  | agg l => simp only [S2.den]; rw [cellsDen_like hl h1 h2]
theorem SV.den_like (hl : Env.like a b n n') {x : SV} (h1 : x.vlt a = true) (h2 : x.lt b = true) : x.den S n = x.den S n' := by
  cases x with
  | one x => exact S2.den_like hl h1 h2
  | tup l =>
    simp only [SV.den]
    rw [List.map_congr_left fun x hx => S2.den_like hl (List.all_eq_true.1 h1 x hx) (List.all_eq_true.1 h2 x hx)]
theorem SVs.den_like (hl : Env.like a b n n') {l : List SV} (h1 : l.all (SV.vlt a) = true) (h2 : l.all (SV.lt b) = true) : l.map (SV.den S n) = l.map (SV.den S n') :=
  List.map_congr_left fun x hx => SV.den_like hl (List.all_eq_true.1 h1 x hx) (List.all_eq_true.1 h2 x hx)

theorem Blk.holds_like (hl : Env.like a b n n') {id : Nat} {x : Blk} (h0 : id < b) (h1 : x.vlt a = true) (h2 : x.lt b = true) (hh : x.holds S n o h id) : x.holds S n' o h id := by
  cases x with
  | cells l => simp only [Blk.holds] at *; rw [← hl.rho _ h0, ← cellsDen_like hl h1 h2]; exact hh
  | row k g => simp only [Blk.holds] at *; rw [← hl.rho _ h0, ← E.den_vlt hl.v h1]; exact hh
  | res k g => simp only [Blk.holds] at *; rw [← hl.rho _ h0, ← E.den_vlt hl.v h1]; exact hh
  | vec c ks g =>
    simp only [Blk.lt, decide_eq_true_eq] at h2
    simp only [Blk.holds] at *; rw [← hl.rho _ h0, ← hl.rho _ h2, ← E.den_vlt hl.v h1]; exact hh
  | chan x g =>
    simp only [Blk.vlt, Bool.and_eq_true] at h1
    simp only [Blk.holds] at *; rw [← hl.rho _ h0, ← E.den_vlt hl.v h1.1, ← E.den_vlt hl.v h1.2]; exact hh
  | inp ks x g y =>
    simp only [Blk.vlt, Bool.and_eq_true] at h1
    simp only [Blk.holds] at *; rw [← hl.rho _ h0, ← E.den_vlt hl.v h1.1.1, ← E.den_vlt hl.v h1.1.2, ← E.den_vlt hl.v h1.2]; exact hh
theorem Sat.like (hl : Env.like a b n n') {H : SH} (h1 : H.vlt a = true) (h2 : H.lt b = true) (hs : Sat S n o h H) : Sat S n' o h H := fun p hp => by
  have e1 := List.all_eq_true.1 h1 p hp
  have e2 := List.all_eq_true.1 h2 p hp
  simp only [Bool.and_eq_true, decide_eq_true_eq] at e2
  exact ⟨(hs p hp).1, Blk.holds_like hl e2.1 e1 e2.2 (hs p hp).2⟩

theorem Sat.plain {H : SH} (hp : H.plain = true) (hv : n.v = n'.v) (hr : n.rho = n'.rho) (hs : Sat S n o h H) : Sat S n' o h H := fun p hpm => by
  have e1 := List.all_eq_true.1 hp p hpm
  obtain ⟨h0, h1⟩ := hs p hpm
  refine ⟨h0, Blk.keep hv.symm (by rw [hr]) ⟨fun l hl => ?_, fun _ _ _ _ => by rw [hr]⟩ (fun i _ hi => ⟨hi, rfl⟩) h1⟩
  rw [hl] at e1
  refine List.map_congr_left fun x hx => ?_
  have := List.all_eq_true.1 e1 x hx
  cases x
  case clo f b y => cases b <;> cases y <;> simp [S1.den, hr]
  all_goals simp [S1.plain] at this <;> simp [S1.den, hv, hr]

/-! ### laying open, and putting together -/
def ren (id b j : Nat) : Nat := if j = 1 then id else j + b

def openH (sh : SH) (id a b : Nat) (rest : SH) : SH := SH.join rest (sh.sub (fun j => .var (j + a)) (ren id b))

theorem ren_inj {id b i j : Nat} (hb : id < b) (h : ren id b i = ren id b j) : i = j := by
  unfold ren at h
  split at h <;> split at h <;> omega

theorem Lang.unfold {L : Lang U} {N k id g : Nat} {rest : SH} (hs : Sat (L.sig N) n o h ((id, .res k (.var g)) :: rest)) (hk : k < N)
    (hwf : ∀ sh ∈ L.kinds k, sh.H.klt k = true ∧ sh.H.plain = true ∧ nodupB (ids sh.H) = true)
    (hv : rest.vlt a = true) (hl : rest.lt b = true) (hid : id < b) (hnot : (ids rest).contains id = false) :
    ∃ sh ∈ L.kinds k, ∃ (n2 : Env U) (o2 : Nat → Nat), Env.like a b n n2 ∧ (n.v g = sh.enc (fun j => n2.v (j + a)) ∧ sh.inv (fun j => n2.v (j + a))) ∧
      Sat (L.sig N) n2 o2 h (openH sh.H id a b rest) ∧ ∀ x, x < h.size → o x = 0 → o2 x = 0 := by
  obtain ⟨h0, hres⟩ := hs _ (List.mem_cons_self ..)
  obtain ⟨sh, hsh, n1, o1, e1, e2, e3, e4⟩ := (L.res_iff hk _ _ _ _).1 hres
  obtain ⟨w1, w2, w3⟩ := hwf sh hsh
  have e3 := (Sat.sig (Nat.le_of_lt hk) w1).1 e3
  let n2 : Env U := { v := fun i => if i < a then n.v i else n1.v (i - a), rho := fun i => if i < b then n.rho i else n1.rho (i - b), om := n.om, om1 := n.om1 }
  have hlike : Env.like a b n n2 := ⟨fun i hi => by show _ = (if i < a then _ else _); rw [if_pos hi], fun i hi => by show _ = (if i < b then _ else _); rw [if_pos hi], rfl⟩
  have hpv : (n2.pull (L.sig N) (fun j => .var (j + a)) (ren id b)).v = n1.v := by
    funext j
    show (if j + a < a then _ else n1.v (j + a - a)) = _
    rw [if_neg (by omega), Nat.add_sub_cancel]
  have hpr : (n2.pull (L.sig N) (fun j => .var (j + a)) (ren id b)).rho = n1.rho := by
    funext j
    show (if ren id b j < b then n.rho (ren id b j) else n1.rho (ren id b j - b)) = _
    unfold ren
    by_cases hj : j = 1
    · rw [if_pos hj, if_pos hid, hj, e1]
    · rw [if_neg hj, if_neg (by omega), Nat.add_sub_cancel]
  have hex : ∀ x : Nat, ∃ y : Nat, (o x = id ∧ o1 x ∈ ids sh.H ∧ x < h.size ∧ y = ren id b (o1 x)) ∨ (¬ (o x = id ∧ o1 x ∈ ids sh.H ∧ x < h.size) ∧ o x ∈ ids rest ∧ y = o x) ∨ (¬ (o x = id ∧ o1 x ∈ ids sh.H ∧ x < h.size) ∧ o x ∉ ids rest ∧ y = 0) := by
    intro x
    by_cases h1 : o x = id ∧ o1 x ∈ ids sh.H ∧ x < h.size
    · exact ⟨_, .inl ⟨h1.1, h1.2.1, h1.2.2, rfl⟩⟩
    · by_cases h2 : o x ∈ ids rest
      · exact ⟨_, .inr (.inl ⟨h1, h2, rfl⟩)⟩
      · exact ⟨_, .inr (.inr ⟨h1, h2, rfl⟩)⟩
  obtain ⟨o2, ho2⟩ := Classical.axiomOfChoice hex
  have hidr : id ∉ ids rest := fun hc => by rw [← List.contains_iff_mem] at hc; rw [hc] at hnot; exact absurd hnot (by simp)
  have hrlt : ∀ i ∈ ids rest, i < b ∧ 0 < i := by
    intro i hi
    obtain ⟨p, hp, rfl⟩ := List.mem_map.1 hi
    have := List.all_eq_true.1 hl p hp
    simp only [Bool.and_eq_true, decide_eq_true_eq] at this
    exact ⟨this.1, (hs p (List.mem_cons_of_mem _ hp)).1⟩
  refine ⟨sh, hsh, n2, o2, hlike, ?_, ?_, ?_⟩
  · have : n.v g = sh.enc n1.v := e2.1
    have hpv' : (fun j => n2.v (j + a)) = n1.v := hpv
    rw [hpv']
    exact ⟨this, e2.2⟩
  · refine Sat.join ?_ ?_
    · intro p hp
      have h1 := (Sat.like hlike hv hl (fun q hq => hs q (List.mem_cons_of_mem _ hq))) p hp
      refine ⟨h1.1, Blk.keep rfl rfl ⟨fun _ _ => rfl, fun _ _ _ _ => rfl⟩ (fun x hx hox => ?_) h1.2⟩
      have hm : p.1 ∈ ids rest := List.mem_map.2 ⟨p, hp, rfl⟩
      refine ⟨?_, rfl⟩
      rcases ho2 x with ⟨h5, _⟩ | ⟨_, _, h7⟩ | ⟨_, h6, _⟩
      · rw [hox] at h5; rw [h5] at hm; exact absurd hm hidr
      · rw [h7, hox]
      · rw [hox] at h6; exact absurd hm h6
    · intro p hp
      obtain ⟨q, hq, rfl⟩ := List.mem_map.1 hp
      have e3' := Sat.plain w2 hpv.symm hpr.symm e3
      obtain ⟨h1, h2⟩ := e3' q hq
      have hqi : q.1 ∈ ids sh.H := List.mem_map.2 ⟨q, hq, rfl⟩
      refine ⟨?_, (Blk.holds_sub _ (ren id b) fun x hx => ?_).1 h2⟩
      · show 0 < ren id b q.1
        unfold ren; split <;> omega
      · rcases ho2 x with ⟨h5, h6, h7, h8⟩ | ⟨h5, h6, h7⟩ | ⟨h5, h6, h7⟩
        · constructor
          · intro e; rw [h8, e]
          · intro e; rw [h8] at e; exact ren_inj hid e
        · constructor
          · intro e
            have := e4 x hx (by omega)
            exact absurd ⟨this, by rw [e]; exact hqi, hx⟩ h5
          · intro e
            rw [h7] at e
            exfalso
            have h9 := hrlt _ h6
            rw [e] at h9 h6
            unfold ren at h9 h6
            split at h6
            · exact hidr h6
            · rename_i hj; rw [if_neg hj] at h9; omega
        · constructor
          · intro e
            have := e4 x hx (by omega)
            exact absurd ⟨this, by rw [e]; exact hqi, hx⟩ h5
          · intro e
            rw [h7] at e
            exfalso
            unfold ren at e
            split at e <;> omega
  · intro x hx h0'
    rcases ho2 x with ⟨h5, _⟩ | ⟨_, h6, h7⟩ | ⟨_, _, h7⟩
    · have h0 : 0 < id := h0
      omega
    · rw [h7, h0']
    · exact h7

def foldFit (sh : SH) (σ : Nat → E) (τ : Nat → Nat) (H : SH) : Bool :=
  sh.all (fun p => decide (0 < p.1) && decide (H.get (τ p.1) = some (p.2.sub σ τ))) && nodupB ((ids sh).map τ)

theorem Lang.fold {L : Lang U} {N k : Nat} {H : SH} (hs : Sat (L.sig N) n o h H) (hk : k < N) {sh : Shape U} (hsh : sh ∈ L.kinds k)
    (hwf : sh.H.klt k = true) {σ : Nat → E} {τ : Nat → Nat} (hfit : foldFit sh.H σ τ H = true) (h1in : 1 ∈ ids sh.H) {e : E}
    (he : e.den (L.sig N) n.v = sh.enc (fun j => (σ j).den (L.sig N) n.v) ∧ sh.inv (fun j => (σ j).den (L.sig N) n.v)) {rest : SH}
    (hrest : ∀ p ∈ rest, p ∈ H ∧ ∀ j ∈ ids sh.H, τ j ≠ p.1) :
    ∃ o', Sat (L.sig N) n o' h ((τ 1, .res k e) :: rest) ∧ ∀ x, x < h.size → o x = 0 → o' x = 0 := by
  simp only [foldFit, Bool.and_eq_true, List.all_eq_true, decide_eq_true_eq] at hfit
  obtain ⟨hfit, hnd⟩ := hfit
  have hinj := nodupB_inj hnd
  have hpos : ∀ i ∈ ids sh.H, 0 < i ∧ 0 < τ i := by
    intro i hi
    obtain ⟨p, hp, rfl⟩ := List.mem_map.1 hi
    exact ⟨(hfit p hp).1, (hs.get (hfit p hp).2).1⟩
  have hex : ∀ x : Nat, ∃ j : Nat, (∃ i ∈ ids sh.H, τ i = o x ∧ j = i) ∨ ((∀ i ∈ ids sh.H, τ i ≠ o x) ∧ j = 0) := by
    intro x
    by_cases hx : ∃ i ∈ ids sh.H, τ i = o x
    · obtain ⟨i, hi, e⟩ := hx; exact ⟨i, .inl ⟨i, hi, e, rfl⟩⟩
    · exact ⟨0, .inr ⟨fun i hi e => hx ⟨i, hi, e⟩, rfl⟩⟩
  obtain ⟨o1, ho1⟩ := Classical.axiomOfChoice hex
  have hcol : ∀ i ∈ ids sh.H, ∀ x, (o1 x = i ↔ o x = τ i) := by
    intro i hi x
    rcases ho1 x with ⟨k, hk, e1, e2⟩ | ⟨h1, h2⟩
    · constructor
      · intro e; rw [← e, e2, e1]
      · intro e; rw [e2]; exact hinj k hk i hi (by rw [e1, e])
    · constructor
      · intro e; have := (hpos i hi).1; omega
      · intro e; exact absurd e.symm (h1 i hi)
  have hsat1 : Sat (L.sig N) (n.pull (L.sig N) σ τ) o1 h sh.H := by
    intro p hp
    obtain ⟨h1, h3⟩ := hfit p hp
    exact ⟨h1, (Blk.holds_sub σ τ fun x _ => hcol p.1 (List.mem_map.2 ⟨p, hp, rfl⟩) x).2 (hs.get h3).2⟩
  have hex2 : ∀ x : Nat, ∃ y : Nat, (o1 x ≠ 0 ∧ y = τ 1) ∨ (o1 x = 0 ∧ o x ∈ ids rest ∧ y = o x) ∨ (o1 x = 0 ∧ o x ∉ ids rest ∧ y = 0) := by
    intro x
    by_cases h1 : o1 x ≠ 0
    · exact ⟨_, .inl ⟨h1, rfl⟩⟩
    · have h1 : o1 x = 0 := by omega
      by_cases h2 : o x ∈ ids rest
      · exact ⟨_, .inr (.inl ⟨h1, h2, rfl⟩)⟩
      · exact ⟨_, .inr (.inr ⟨h1, h2, rfl⟩)⟩
  obtain ⟨o2, ho2⟩ := Classical.axiomOfChoice hex2
  refine ⟨o2, fun p hp => ?_, fun x hx h0 => ?_⟩
  · rcases List.mem_cons.1 hp with rfl | hp
    · refine ⟨(hpos 1 h1in).2, (L.res_iff hk _ _ _ _).2 ⟨sh, hsh, n.pull (L.sig N) σ τ, o1, rfl, he, (Sat.sig (Nat.le_of_lt hk) hwf).2 hsat1, fun x _ hx => ?_⟩⟩
      rcases ho2 x with ⟨_, h6⟩ | ⟨h5, _⟩ | ⟨h5, _⟩
      · exact h6
      · exact absurd h5 hx
      · exact absurd h5 hx
    · obtain ⟨h1, h2⟩ := hrest p hp
      obtain ⟨h3, h4⟩ := hs p h1
      refine ⟨h3, Blk.keep rfl rfl ⟨fun _ _ => rfl, fun _ _ _ _ => rfl⟩ (fun x hx hox => ⟨?_, rfl⟩) h4⟩
      have hm : p.1 ∈ ids rest := List.mem_map.2 ⟨p, hp, rfl⟩
      have h0 : o1 x = 0 := by
        rcases ho1 x with ⟨i, hi, e1, e2⟩ | ⟨h5, h6⟩
        · rw [hox] at e1; exact absurd e1 (h2 i hi)
        · exact h6
      rcases ho2 x with ⟨h5, _⟩ | ⟨_, _, h7⟩ | ⟨_, h6, _⟩
      · exact absurd h0 h5
      · rw [h7, hox]
      · rw [hox] at h6; exact absurd hm h6
  · have h0' : o1 x = 0 := by
      rcases ho1 x with ⟨i, hi, e1, e2⟩ | ⟨h5, h6⟩
      · have := (hpos i hi).2; omega
      · exact h6
    rcases ho2 x with ⟨h5, _⟩ | ⟨_, h6, h7⟩ | ⟨_, _, h7⟩
    · exact absurd h0' h5
    · rw [h7, h0]
    · exact h7

end Go.Sx

/- The symbolic executor, part 14: a template is shown by carrying the function out, at each shape of what is laid open. -/
namespace Go.Sx
open Go
set_option linter.unusedSimpArgs false
set_option linter.unusedVariables false

variable {U : Type} {L : Lang U} {N : Nat} {P : Program} {T : Tab} {tmpl : CH} {rounds depth : Nat} {f : FuncId}

/-- The same piece of memory, where the variables mean v. -/
def Blk.eqv (S : Sig U) (v : Nat → G U) (x y : Blk) : Prop := ∀ (n : Env U) (o : Nat → Nat) (h : Array Obj) (id : Nat), n.v = v → x.holds S n o h id → y.holds S n o h id

theorem Blk.eqv_refl {S : Sig U} {v : Nat → G U} (x : Blk) : Blk.eqv S v x x := fun _ _ _ _ _ h => h
theorem Blk.eqv_res {S : Sig U} {v : Nat → G U} {k : Nat} {e e' : E} (he : e.den S v = e'.den S v) : Blk.eqv S v (.res k e) (.res k e') := fun n o h id hv hh => by
  subst hv
  simp only [Blk.holds] at *
  rw [← he]; exact hh

/-- What is left besides: each piece by its number. -/
def restOK (S : Sig U) (v : Nat → G U) (H : SH) (not : List Nat) (rest0 : SH) : Prop :=
  ∀ p ∈ rest0, not.contains p.1 = false ∧ ∃ x, H.get p.1 = some x ∧ Blk.eqv S v x p.2

/-- One end of the way: it is what the template says. 'none': nothing is put together. -/
def EndOK (L : Lang U) (N : Nat) (v : Nat → G U) (c : CO) (ret0 : SV) (root : Option (Nat × Nat × E)) (rest0 : SH) : Prop :=
  c.ok = true ∧ (∀ n : Env U, n.v = v → c.ret.den (L.sig N) n = ret0.den (L.sig N) n) ∧
  match root with
  | some (r, k, e0) => ∃ sh ∈ L.kinds k, ∃ (σ : Nat → E) (τ : Nat → Nat), foldFit sh.H σ τ c.H = true ∧ τ 1 = r ∧
      (e0.den (L.sig N) v = sh.enc (fun j => (σ j).den (L.sig N) v) ∧ sh.inv (fun j => (σ j).den (L.sig N) v)) ∧ restOK (L.sig N) v c.H ((ids sh.H).map τ) rest0
  | none => restOK (L.sig N) v c.H [] rest0

def rootH (root : Option (Nat × Nat × E)) : SH := match root with | some (r, k, e0) => [(r, .res k e0)] | none => []

theorem get_mem {H : SH} {i : Nat} {x : Blk} (h : H.get i = some x) : (i, x) ∈ H := by
  unfold SH.get at h
  simp only [Option.map_eq_some_iff] at h
  obtain ⟨p, hp, rfl⟩ := h
  have h1 := List.mem_of_find?_eq_some hp
  have h2 := List.find?_some hp
  simp at h2
  subst h2
  exact h1

/-- What a state says of some of its numbers. -/
theorem Sat.rest {S : Sig U} {n : Env U} {o : Nat → Nat} {h : Array Obj} {H rest0 : SH} {not : List Nat} (hs : Sat S n o h H) (hr : restOK S n.v H not rest0) : Sat S n o h rest0 := fun p hp => by
  obtain ⟨_, x, hx, he⟩ := hr p hp
  obtain ⟨h1, h2⟩ := hs.get hx
  exact ⟨h1, he n o h p.1 rfl h2⟩

theorem EndOK.sat {n : Env U} {o : Nat → Nat} {h : Array Obj} {c : CO} {ret0 : SV} {root : Option (Nat × Nat × E)} {rest0 : SH}
    (hwf : ∀ r k e0, root = some (r, k, e0) → k < N ∧ ∀ sh ∈ L.kinds k, sh.H.klt k = true ∧ (ids sh.H).contains 1 = true)
    (he : EndOK L N n.v c ret0 root rest0) (hs : Sat (L.sig N) n o h c.H) :
    ∃ o', Sat (L.sig N) n o' h (rootH root ++ rest0) ∧ ∀ x, x < h.size → o x = 0 → o' x = 0 := by
  obtain ⟨_, _, he⟩ := he
  cases root with
  | none => exact ⟨o, hs.rest he, fun _ _ h => h⟩
  | some x =>
    obtain ⟨r, k, e0⟩ := x
    obtain ⟨sh, hsh, σ, τ, h1, h2, h3, h4⟩ := he
    obtain ⟨hk, hw⟩ := hwf r k e0 rfl
    obtain ⟨w1, w2⟩ := hw sh hsh
    -- the rest, as it stands in c.H
    have hex : ∀ p ∈ rest0, ∃ x, (p.1, x) ∈ c.H ∧ Blk.eqv (L.sig N) n.v x p.2 := fun p hp => by
      obtain ⟨_, x, hx, e⟩ := h4 p hp
      exact ⟨x, get_mem hx, e⟩
    let rest1 : SH := c.H.filter fun q => !(((ids sh.H).map τ).contains q.1)
    obtain ⟨o', hs', hz⟩ := Lang.fold hs hk hsh w1 h1 (List.contains_iff_mem.1 w2) h3 (rest := rest1) (fun p hp => by
      obtain ⟨hp1, hp2⟩ := List.mem_filter.1 hp
      refine ⟨hp1, fun j hj e => ?_⟩
      simp only [Bool.not_eq_true'] at hp2
      have : ((ids sh.H).map τ).contains p.1 = true := by rw [List.contains_iff_mem]; exact List.mem_map.2 ⟨j, hj, e⟩
      rw [this] at hp2; exact absurd hp2 (by simp))
    refine ⟨o', ?_, hz⟩
    intro p hp
    rcases List.mem_append.1 hp with hp | hp
    · simp only [rootH, List.mem_singleton] at hp
      subst hp
      have := hs' _ (List.mem_cons_self ..)
      rw [h2] at this
      exact this
    · obtain ⟨hnot, x, hx, e⟩ := h4 p hp
      have hm : (p.1, x) ∈ rest1 := List.mem_filter.2 ⟨get_mem hx, by simp only [hnot, Bool.not_false]⟩
      obtain ⟨q1, q2⟩ := hs' _ (List.mem_cons_of_mem _ hm)
      exact ⟨q1, e n o' h p.1 rfl q2⟩

/-- What a call of one function is known to do. -/
def CallAt (S : Sig U) (P : Program) (f : FuncId) (call : List SV → SH → Nat → Path → Option (List CO)) : Prop :=
  ∀ args H nx pa cs, call args H nx pa = some cs → ∀ (n : Env U) (o : Nat → Nat) (w : World), PT S n.v pa → Sat S n o w.heap H →
    (∀ c ∈ cs, c.ok = false → ¬ PT S n.v c.pa) →
    Calls P f (args.map (SV.den S n)).toArray w fun e w' => ∃ c ∈ cs, c.ok = true ∧ PT S n.v c.pa ∧
      ∃ n' o', e = .returned (c.ret.den S n') ∧ Sat S n' o' w'.heap c.H ∧ Fr w o w' o' ∧ Ext nx n n' ∧ nx ≤ c.nx
theorem callX_at {S : Sig U} (hT : T.ok P) (htm : CallOK S P tmpl) : CallAt S P f (callX T tmpl rounds depth f) := callX_sound hT htm rounds depth f

/-- The template of a function, what it works on laid open first ('id' number 1, of kind k), put together behind it. -/
theorem Tmpl.meth' {call : List SV → SH → Nat → Path → Option (List CO)} (hat : CallAt (L.sig N) P f call) {t : Tmpl} {k g a nxu : Nat} {rest : SH} {ret0 : SV} {root : Option (Nat × Nat × E)} {rest0 : SH} {nxo : Nat}
    (hpre : t.pre = (1, .res k (.var g)) :: rest) (houts : t.outs = [⟨true, ret0, rootH root ++ rest0, nxo, []⟩])
    (hk : k < N) (hwf : ∀ sh ∈ L.kinds k, sh.H.klt k = true ∧ sh.H.plain = true ∧ nodupB (ids sh.H) = true)
    (hwf2 : ∀ r k e0, root = some (r, k, e0) → k < N ∧ ∀ sh ∈ L.kinds k, sh.H.klt k = true ∧ (ids sh.H).contains 1 = true)
    (hb : (rest.vlt a && rest.lt t.nx && decide (1 < t.nx) && !((ids rest).contains 1) && t.args.all (SV.vlt a) && t.args.all (SV.lt t.nx) && decide (g < a) && decide (t.nx ≤ nxu)
      && ret0.vlt a && ret0.lt nxo && (rootH root ++ rest0).vlt a && (rootH root ++ rest0).lt nxo) = true)
    (hcase : ∀ sh ∈ L.kinds k, ∃ cs, call t.args (openH sh.H 1 a t.nx rest) nxu [] = some cs ∧
      ∀ c ∈ cs, ∀ v : Nat → G U, PT (L.sig N) v c.pa → v g = sh.enc (fun j => v (j + a)) → sh.inv (fun j => v (j + a)) → EndOK L N v c ret0 root rest0) : t.ok (L.sig N) P f := by
  intro n o w hs hfail
  simp only [Bool.and_eq_true, decide_eq_true_eq, Bool.not_eq_true'] at hb
  obtain ⟨⟨⟨⟨⟨⟨⟨⟨⟨⟨⟨b1, b2⟩, b3⟩, b4⟩, b5⟩, b6⟩, b7⟩, b8⟩, b9⟩, b10⟩, b11⟩, b12⟩ := hb
  rw [hpre] at hs
  obtain ⟨sh, hsh, n2, o2, hlike, henc, hs2, hz2⟩ := Lang.unfold hs hk hwf b1 b2 b3 b4
  obtain ⟨cs, hcs, hall⟩ := hcase sh hsh
  obtain ⟨henc, hinv⟩ := henc
  have hg : n2.v g = sh.enc (fun j => n2.v (j + a)) := by rw [← hlike.v g b7]; exact henc
  have hcall := hat t.args _ nxu [] cs hcs n2 o2 w (fun x hx => by cases hx) hs2 (fun c hc hok hpt => by
    have := (hall c hc n2.v hpt hg hinv).1
    rw [this] at hok; exact absurd hok (by simp))
  rw [← SVs.den_like hlike b5 b6] at hcall
  refine Calls.mono hcall ?_
  rintro e w' ⟨c, hc, hok, hpt, n3, o3, rfl, hs3, hfr, hext, _⟩
  have hend := hall c hc n2.v hpt hg hinv
  rw [← hext.v] at hend
  obtain ⟨o4, hs4, hz4⟩ := hend.sat hwf2 hs3
  let n4 : Env U := { v := n.v, rho := n3.rho, om := n.om, om1 := n.om1 }
  have hl4 : Env.like a nxo n3 n4 := ⟨fun i hi => by rw [hext.v, ← hlike.v i hi], fun i _ => rfl, by rw [hext.om, ← hlike.om]⟩
  have hpt0 : PT (L.sig N) n.v [] := fun x hx => by cases hx
  refine ⟨⟨true, ret0, rootH root ++ rest0, nxo, []⟩, by rw [houts]; exact List.mem_singleton.2 rfl, rfl, hpt0, n4, o4, ?_, Sat.like hl4 b11 b12 hs4, ?_, ?_⟩
  · rw [hend.2.1 n3 rfl, SV.den_like hl4 b9 b10]
  · refine ⟨hfr.os, hfr.tape, hfr.output, hfr.size, fun x hx h0 => ?_⟩
    obtain ⟨h1, h2⟩ := hfr.same x hx (hz2 x hx h0)
    exact ⟨hz4 x (Nat.lt_of_lt_of_le hx hfr.size) h1, h2⟩
  · refine ⟨rfl, rfl, fun i hi => ?_⟩
    show n3.rho i = n.rho i
    rw [hext.rho i (Nat.lt_of_lt_of_le hi b8), ← hlike.rho i hi]

theorem Tmpl.meth (hT : T.ok P) (htm : CallOK (L.sig N) P tmpl) {t : Tmpl} {k g a nxu : Nat} {rest : SH} {ret0 : SV} {root : Option (Nat × Nat × E)} {rest0 : SH} {nxo : Nat}
    (hpre : t.pre = (1, .res k (.var g)) :: rest) (houts : t.outs = [⟨true, ret0, rootH root ++ rest0, nxo, []⟩])
    (hk : k < N) (hwf : ∀ sh ∈ L.kinds k, sh.H.klt k = true ∧ sh.H.plain = true ∧ nodupB (ids sh.H) = true)
    (hwf2 : ∀ r k e0, root = some (r, k, e0) → k < N ∧ ∀ sh ∈ L.kinds k, sh.H.klt k = true ∧ (ids sh.H).contains 1 = true)
    (hb : (rest.vlt a && rest.lt t.nx && decide (1 < t.nx) && !((ids rest).contains 1) && t.args.all (SV.vlt a) && t.args.all (SV.lt t.nx) && decide (g < a) && decide (t.nx ≤ nxu)
      && ret0.vlt a && ret0.lt nxo && (rootH root ++ rest0).vlt a && (rootH root ++ rest0).lt nxo) = true)
    (hcase : ∀ sh ∈ L.kinds k, ∃ cs, callX T tmpl rounds depth f t.args (openH sh.H 1 a t.nx rest) nxu [] = some cs ∧
      ∀ c ∈ cs, ∀ v : Nat → G U, PT (L.sig N) v c.pa → v g = sh.enc (fun j => v (j + a)) → sh.inv (fun j => v (j + a)) → EndOK L N v c ret0 root rest0) : t.ok (L.sig N) P f :=
  Tmpl.meth' (callX_at hT htm) hpre houts hk hwf hwf2 hb hcase

/-- The template of a function that lays nothing open. -/
theorem Tmpl.plain (hT : T.ok P) (htm : CallOK (L.sig N) P tmpl) {t : Tmpl} {ret0 : SV} {root : Option (Nat × Nat × E)} {rest0 : SH} {nxo : Nat}
    (houts : t.outs = [⟨true, ret0, rootH root ++ rest0, nxo, []⟩])
    (hwf2 : ∀ r k e0, root = some (r, k, e0) → k < N ∧ ∀ sh ∈ L.kinds k, sh.H.klt k = true ∧ (ids sh.H).contains 1 = true)
    (hcase : ∃ cs, callX T tmpl rounds depth f t.args t.pre t.nx [] = some cs ∧
      ∀ c ∈ cs, ∀ v : Nat → G U, PT (L.sig N) v c.pa → EndOK L N v c ret0 root rest0) : t.ok (L.sig N) P f := by
  intro n o w hs hfail
  obtain ⟨cs, hcs, hall⟩ := hcase
  have hcall := callX_sound hT htm rounds depth f t.args _ t.nx [] cs hcs n o w (fun x hx => by cases hx) hs (fun c hc hok hpt => by
    have := (hall c hc n.v hpt).1
    rw [this] at hok; exact absurd hok (by simp))
  refine Calls.mono hcall ?_
  rintro e w' ⟨c, hc, hok, hpt, n3, o3, rfl, hs3, hfr, hext, _⟩
  have hend := hall c hc n.v hpt
  rw [← hext.v] at hend
  obtain ⟨o4, hs4, hz4⟩ := hend.sat hwf2 hs3
  have hpt0 : PT (L.sig N) n.v [] := fun x hx => by cases hx
  refine ⟨⟨true, ret0, rootH root ++ rest0, nxo, []⟩, by rw [houts]; exact List.mem_singleton.2 rfl, rfl, hpt0, n3, o4, by rw [hend.2.1 n3 rfl], hs4, ?_, hext⟩
  refine ⟨hfr.os, hfr.tape, hfr.output, hfr.size, fun x hx h0 => ?_⟩
  obtain ⟨h1, h2⟩ := hfr.same x hx h0
  exact ⟨hz4 x (Nat.lt_of_lt_of_le hx hfr.size) h1, h2⟩

/-! ### many templates -/
def tmplOf (tt : FuncId → List Tmpl) : CH := fun f args H nx pa =>
  go args H nx pa (tt f)
  where
  go (args : List SV) (H : SH) (nx : Nat) (pa : Path) : List Tmpl → Option (List CO)
    | [] => none
    | t :: r => match t.at args H nx pa with
      | some cs => some cs
      | none => go args H nx pa r

theorem tmplOf_ok {S : Sig U} {tt : FuncId → List Tmpl} (h : ∀ f, ∀ t ∈ tt f, t.ok S P f) : CallOK S P (tmplOf tt) := by
  intro f args H nx pa cs hcs n o w hp hs hfail
  have go : ∀ l : List Tmpl, (∀ t ∈ l, t.ok S P f) → tmplOf.go args H nx pa l = some cs → Calls P f (args.map (SV.den S n)).toArray w fun e w' => ∃ c ∈ cs, c.ok = true ∧ PT S n.v c.pa ∧
      ∃ n' o', e = .returned (c.ret.den S n') ∧ Sat S n' o' w'.heap c.H ∧ Fr w o w' o' ∧ Ext nx n n' ∧ nx ≤ c.nx := by
    intro l
    induction l with
    | nil => intro _ h; simp [tmplOf.go] at h
    | cons t r ih =>
      intro hl hg
      simp only [tmplOf.go] at hg
      split at hg
      · rename_i cs' hat
        simp at hg; subst hg
        exact Tmpl.at_sound (hl t (List.mem_cons_self ..)) hat hp hs hfail
      · exact ih (fun t ht => hl t (List.mem_cons_of_mem _ ht)) hg
  exact go (tt f) (h f) hcs

end Go.Sx

/- The symbolic executor, part 15: templates of functions that end in several ways. -/
namespace Go.Sx
open Go
set_option linter.unusedSimpArgs false
set_option linter.unusedVariables false

variable {U : Type} {L : Lang U} {N : Nat} {P : Program} {T : Tab} {tmpl : CH} {rounds depth : Nat} {f : FuncId}

structure OutS where
  ret : SV
  root : Option (Nat × Nat × E)
  nxo : Nat
  pa : Path

def OutS.co (o : OutS) : CO := ⟨true, o.ret, rootH o.root ++ [], o.nxo, o.pa⟩

theorem Tmpl.plains' {call : List SV → SH → Nat → Path → Option (List CO)} (hat : CallAt (L.sig N) P f call) {t : Tmpl} {outs : List OutS}
    (houts : t.outs = outs.map OutS.co)
    (hwf2 : ∀ x ∈ outs, ∀ r k e0, x.root = some (r, k, e0) → k < N ∧ ∀ sh ∈ L.kinds k, sh.H.klt k = true ∧ (ids sh.H).contains 1 = true)
    (hcase : ∃ cs, call t.args t.pre t.nx [] = some cs ∧
      ∀ c ∈ cs, ∀ v : Nat → G U, PT (L.sig N) v c.pa → ∃ x ∈ outs, PT (L.sig N) v x.pa ∧ EndOK L N v c x.ret x.root []) : t.ok (L.sig N) P f := by
  intro n o w hs hfail
  obtain ⟨cs, hcs, hall⟩ := hcase
  have hcall := hat t.args _ t.nx [] cs hcs n o w (fun x hx => by cases hx) hs (fun c hc hok hpt => by
    obtain ⟨x, _, _, h1⟩ := hall c hc n.v hpt
    rw [h1.1] at hok; exact absurd hok (by simp))
  refine Calls.mono hcall ?_
  rintro e w' ⟨c, hc, hok, hpt, n3, o3, rfl, hs3, hfr, hext, _⟩
  obtain ⟨x, hx, hpx, hend⟩ := hall c hc n.v hpt
  have hpx' := hpx
  rw [← hext.v] at hend
  obtain ⟨o4, hs4, hz4⟩ := hend.sat (hwf2 x hx) hs3
  refine ⟨x.co, by rw [houts]; exact List.mem_map.2 ⟨x, hx, rfl⟩, rfl, hpx', n3, o4, by rw [hend.2.1 n3 rfl]; rfl, hs4, ?_, hext⟩
  refine ⟨hfr.os, hfr.tape, hfr.output, hfr.size, fun y hy h0 => ?_⟩
  obtain ⟨h1, h2⟩ := hfr.same y hy h0
  exact ⟨hz4 y (Nat.lt_of_lt_of_le hy hfr.size) h1, h2⟩

theorem Tmpl.plains (hT : T.ok P) (htm : CallOK (L.sig N) P tmpl) {t : Tmpl} {outs : List OutS}
    (houts : t.outs = outs.map OutS.co)
    (hwf2 : ∀ x ∈ outs, ∀ r k e0, x.root = some (r, k, e0) → k < N ∧ ∀ sh ∈ L.kinds k, sh.H.klt k = true ∧ (ids sh.H).contains 1 = true)
    (hcase : ∃ cs, callX T tmpl rounds depth f t.args t.pre t.nx [] = some cs ∧
      ∀ c ∈ cs, ∀ v : Nat → G U, PT (L.sig N) v c.pa → ∃ x ∈ outs, PT (L.sig N) v x.pa ∧ EndOK L N v c x.ret x.root []) : t.ok (L.sig N) P f :=
  Tmpl.plains' (callX_at hT htm) houts hwf2 hcase

end Go.Sx

/- The symbolic executor, part 16: loops of which it is known what they come to. -/
namespace Go.Sx
open Go
set_option linter.unusedSimpArgs false
set_option linter.unusedVariables false

variable {U : Type} {S : Sig U} {n n' n0 : Env U} {P : Program} {T : Tab} {w w' : World} {a : Act} {o o' : Nat → Nat} {H : SH} {nx : Nat} {call tmpl : CH} {rounds depth : Nat} {f : FuncId}

/-- A part of a text, by the way to it. -/
def codeAt : Code → List Nat → Option Code
  | c, [] => some c
  | .seq x _, 0 :: p => codeAt x p
  | .seq _ y, 1 :: p => codeAt y p
  | .cond _ x _, 0 :: p => codeAt x p
  | .cond _ _ y, 1 :: p => codeAt y p
  | .block _ b, 0 :: p => codeAt b p
  | .loop b, 0 :: p => codeAt b p
  | _, _ => none

abbrev LH := List Nat → St → Option (List Leaf)

def LoopOK (S : Sig U) (P : Program) (c : Code) (lh : LH) : Prop :=
  ∀ p body st ls, codeAt c p = some (.loop body) → lh p st = some ls → ∀ (Q : Exit → Act → World → Prop) (n : Env U) (o : Nat → Nat) (w : World) (a : Act),
    Mt S n o st a w → (∀ x ∈ ls, Good S Q n o w st.nx x) → (Code.loop body).wp P Q a w

def execL (T : Tab) (call : CH) (rounds : Nat) : Code → LH → St → Option (List Leaf)
  | .seq x y, lh, st => obind (execL T call rounds x (fun p => lh (0 :: p)) st) (execL T call rounds y fun p => lh (1 :: p))
  | .cond c x y, lh, st =>
    match evx st.tm c with
    | some (.one (.c (.bool e))) =>
      match dec st.pa e with
      | some true => execL T call rounds x (fun p => lh (0 :: p)) st
      | some false => execL T call rounds y (fun p => lh (1 :: p)) st
      | none =>
        match dec ((base e, true) :: st.pa) e, dec ((base e, false) :: st.pa) e with
        | some true, some false =>
          match execL T call rounds x (fun p => lh (0 :: p)) { st with pa := (base e, true) :: st.pa }, execL T call rounds y (fun p => lh (1 :: p)) { st with pa := (base e, false) :: st.pa } with
          | some p, some q => some (p ++ q)
          | _, _ => none
        | some false, some true =>
          match execL T call rounds y (fun p => lh (1 :: p)) { st with pa := (base e, true) :: st.pa }, execL T call rounds x (fun p => lh (0 :: p)) { st with pa := (base e, false) :: st.pa } with
          | some p, some q => some (p ++ q)
          | _, _ => none
        | _, _ => none
    | _ => none
  | .block id b, lh, st => (execL T call rounds b (fun p => lh (0 :: p)) st).map fun l => l.map (unblock id)
  | .loop b, lh, st =>
    match lh [] st with
    | some ls => some ls
    | none => iter rounds (execL T call rounds b fun p => lh (0 :: p)) st
  | c, _, st => exec T call rounds c st

theorem execL_sound (hT : T.ok P) (hc : CallOK S P call) (rounds : Nat) : ∀ (c : Code) (lh : LH), LoopOK S P c lh → ∀ (Q : Exit → Act → World → Prop) (st : St) (ls : List Leaf) (n : Env U) (o : Nat → Nat) (w : World) (a : Act),
    execL T call rounds c lh st = some ls → Mt S n o st a w → (∀ x ∈ ls, Good S Q n o w st.nx x) → c.wp P Q a w := by
  intro c
  induction c with
  | seq x y ihx ihy =>
    intro lh hlh Q st ls n o w a h hm hg
    have hx : LoopOK S P x fun p => lh (0 :: p) := fun p body => hlh (0 :: p) body
    have hy : LoopOK S P y fun p => lh (1 :: p) := fun p body => hlh (1 :: p) body
    simp only [execL, obind] at h
    split at h
    · rename_i l hl
      exact wp_seq (ihx _ hx _ st l n o w a hl hm (Good.bind h hg fun st' ls' n' o' w' a' h1 h2 h3 => ihy _ hy Q st' ls' n' o' w' a' h1 h2 h3))
    · simp at h
  | cond c x y ihx ihy =>
    intro lh hlh Q st ls n o w a h hm hg
    have hx : LoopOK S P x fun p => lh (0 :: p) := fun p body => hlh (0 :: p) body
    have hy : LoopOK S P y fun p => lh (1 :: p) := fun p body => hlh (1 :: p) body
    simp only [execL] at h
    split at h
    · rename_i e he
      have hev := evx_sound hm.tm he
      simp only [SV.den, S2.den, S1.den] at hev
      split at h
      · rename_i hd
        rw [dec_sound hm.pt hd] at hev
        exact wp_cond_true hev (ihx _ hx Q st ls n o w a h hm hg)
      · rename_i hd
        rw [dec_sound hm.pt hd] at hev
        exact wp_cond_false hev (ihy _ hy Q st ls n o w a h hm hg)
      · have pt : ∀ b, ((base e).den S n.v).toBool = b → PT S n.v ((base e, b) :: st.pa) := fun b hb q hq => by
          rcases List.mem_cons.1 hq with rfl | hq
          · exact hb
          · exact hm.pt q hq
        split at h
        · rename_i h1 h2
          split at h
          · rename_i p q hp hq
            simp at h; subst h
            cases hb : ((base e).den S n.v).toBool with
            | true =>
              rw [dec_sound (pt _ hb) h1] at hev
              exact wp_cond_true hev (ihx _ hx Q _ p n o w a hp ⟨hm.tm, hm.sat, pt _ hb⟩ fun z hz => hg z (List.mem_append_left _ hz))
            | false =>
              rw [dec_sound (pt _ hb) h2] at hev
              exact wp_cond_false hev (ihy _ hy Q _ q n o w a hq ⟨hm.tm, hm.sat, pt _ hb⟩ fun z hz => hg z (List.mem_append_right _ hz))
          · simp at h
        · rename_i h1 h2
          split at h
          · rename_i p q hp hq
            simp at h; subst h
            cases hb : ((base e).den S n.v).toBool with
            | true =>
              rw [dec_sound (pt _ hb) h1] at hev
              exact wp_cond_false hev (ihy _ hy Q _ p n o w a hp ⟨hm.tm, hm.sat, pt _ hb⟩ fun z hz => hg z (List.mem_append_left _ hz))
            | false =>
              rw [dec_sound (pt _ hb) h2] at hev
              exact wp_cond_true hev (ihx _ hx Q _ q n o w a hq ⟨hm.tm, hm.sat, pt _ hb⟩ fun z hz => hg z (List.mem_append_right _ hz))
          · simp at h
        · simp at h
    · simp at h
  | block bid body ih =>
    intro lh hlh Q st ls n o w a h hm hg
    have hb : LoopOK S P body fun p => lh (0 :: p) := fun p b => hlh (0 :: p) b
    simp only [execL, Option.map_eq_some_iff] at h
    obtain ⟨l, hl, rfl⟩ := h
    refine wp_block (ih _ hb _ st l n o w a hl hm fun x hx => ?_)
    have g := hg _ (List.mem_map.2 ⟨x, hx, rfl⟩)
    obtain ⟨out, s⟩ := x
    unfold unblock at g
    cases out with
    | exit i =>
      by_cases hi : i = bid
      · subst hi
        simp only [if_true] at g
        intro n' o' a' w' e1 e2 e3 e4
        show Exit.inBlock i Q (.exit i) a' w'
        simp only [Exit.inBlock, if_true]
        exact g n' o' a' w' e1 e2 e3 e4
      · have : (Out.exit i = Out.exit bid) = False := by simp [hi]
        simp only [this, if_false] at g
        intro n' o' a' w' e1 e2 e3 e4
        show Exit.inBlock bid Q (.exit i) a' w'
        simp only [Exit.inBlock, hi, if_false]
        exact g n' o' a' w' e1 e2 e3 e4
    | _ => exact g
  | loop body ih =>
    intro lh hlh Q st ls n o w a h hm hg
    have hb : LoopOK S P body fun p => lh (0 :: p) := fun p b => hlh (0 :: p) b
    simp only [execL] at h
    split at h
    · rename_i ls' hl
      simp at h; subst h
      exact hlh [] body st _ rfl hl Q n o w a hm hg
    · exact wp_loop_rounds rounds (iter_sound (fun Q st ls n o w a => ih _ hb Q st ls n o w a) rounds st ls n o w a h hm hg)
  | _ => intro lh hlh Q st ls n o w a h hm hg; exact exec_sound hT hc rounds _ Q st ls n o w a (by simpa only [execL] using h) hm hg

/-- A call of a function with such loops. -/
def callL (T : Tab) (tmpl : CH) (rounds depth : Nat) (lh : LH) (f : FuncId) : List SV → SH → Nat → Path → Option (List CO) := fun args H nx pa =>
  match T.fi f with
  | some i =>
    match execL T (callX T tmpl rounds depth) rounds i.body lh ⟨args ++ List.replicate (i.ntmps - args.length) SV.undef, H, nx, pa⟩ with
    | some ls => outx T nx i.results ls
    | none => none
  | none => none

theorem callL_at (hT : T.ok P) (htm : CallOK S P tmpl) {lh : LH} (hlh : ∀ i, T.fi f = some i → LoopOK S P i.body lh) : CallAt S P f (callL T tmpl rounds depth lh f) := by
  intro args H nx pa cs h n o w hp hs hfail
  simp only [callL] at h
  split at h
  case h_2 => simp at h
  rename_i i hi
  split at h
  case h_2 => simp at h
  rename_i ls hls
  obtain ⟨fn, hf, _, hb, hnt, hres⟩ := hT.fi f i hi
  refine calls_of_wp hf hb ?_
  have hm : Mt S n o ⟨args ++ List.replicate (i.ntmps - args.length) SV.undef, H, nx, pa⟩
      { tmps := (args.map (SV.den S n)).toArray ++ Array.replicate (fn.ntmps - (args.map (SV.den S n)).toArray.size) undef, defers := [] } w := by
    refine ⟨Tm.of_map ?_ rfl, hs, hp⟩
    rw [hnt]
    apply Array.ext'
    simp [SV.den, SV.undef, undef]
  refine execL_sound hT (callX_sound hT htm rounds depth) rounds _ _ (hlh i hi) _ _ ls n o w _ hls hm fun x hx => ?_
  obtain ⟨h1, h2, h3⟩ := outx_mem h x hx
  obtain ⟨out, s⟩ := x
  have fin : (out = .norm ∨ out = .ret) → ∀ n' o' a' w', Ext nx n n' → Fr w o w' o' → nx ≤ s.nx → Mt S n' o' s a' w' →
      a'.defers = [] ∧ ∃ v, (results fn a'.tmps).run P w' = .ok v w' ∧ ∃ c ∈ cs, c.ok = true ∧ PT S n.v c.pa ∧
      ∃ n' o', Ending.returned v = .returned (c.ret.den S n') ∧ Sat S n' o' w'.heap c.H ∧ Fr w o w' o' ∧ Ext nx n n' ∧ nx ≤ c.nx := by
    intro hout n' o' a' w' e1 e2 e3 e4
    obtain ⟨v, hv, hcm⟩ := h2 hout
    refine ⟨e4.tm.2, v.den S n', retx_sound hT e4.tm e4.sat (by rw [hres]; exact hv), _, hcm, rfl, by have := e4.pt; rw [e1.v] at this; exact this, n', o', rfl, fun p hp => e4.sat p (gc_sub _ _ _ p hp), e2, e1, e3⟩
  cases out with
  | norm => exact fun n' o' a' w' e1 e2 e3 e4 => fin (.inl rfl) n' o' a' w' e1 e2 e3 e4
  | ret => exact fun n' o' a' w' e1 e2 e3 e4 => fin (.inr rfl) n' o' a' w' e1 e2 e3 e4
  | exit j => exact absurd rfl (h3 j)
  | fail =>
    obtain ⟨c, hcm, hok, hpa⟩ := h1 rfl
    have := hfail c hcm hok
    rw [hpa] at this
    exact this

/-! ### what a loop comes to, as a pattern -/
structure LoopT where
  tm : List SV
  pre : SH
  nx : Nat
  outs : List Leaf

def LoopT.ok (S : Sig U) (P : Program) (body : Code) (t : LoopT) : Prop :=
  ∀ (Q : Exit → Act → World → Prop) (n : Env U) (o : Nat → Nat) (w : World) (a : Act), Tm S n t.tm a → Sat S n o w.heap t.pre → (∀ x ∈ t.outs, Good S Q n o w t.nx x) →
    (Code.loop body).wp P Q a w

def tmFit (σ : Nat → E) (τ : Nat → Nat) : List SV → List SV → Bool
  | [], [] => true
  | x :: l, y :: r => (x.isAny || decide (x.sub σ τ = y)) && tmFit σ τ l r
  | _, _ => false

def leafSub (σ : Nat → E) (τ : Nat → Nat) (k : Nat) (H : SH) (nx : Nat) (pa : Path) (pre : List Nat) (x : Leaf) : Leaf :=
  if x.1 = .fail then (.fail, ⟨[], [], 0, x.2.pa.sub σ ++ pa⟩)
  else (x.1, ⟨x.2.tm.map (SV.sub σ (tau' τ k nx)), SH.join (H.filter fun p => !(pre.contains p.1)) (x.2.H.sub σ (tau' τ k nx)), nx + (x.2.nx - k), x.2.pa.sub σ ++ pa⟩)

def leafFit (τ : Nat → Nat) (k nx : Nat) (pre : List Nat) (x : Leaf) : Bool :=
  decide (x.1 = .fail) || (nodupB ((ids x.2.H).map (tau' τ k nx)) && (ids x.2.H).all (fun j => decide (0 < j) && (pre.contains j || decide (k ≤ j))))

def LoopT.at (t : LoopT) (st : St) : Option (List Leaf) :=
  let m := mH st.H t.pre (mSVs t.tm st.tm)
  let σ := sigOf m.1
  let τ := tauOf m.2
  let pre := (ids t.pre).map τ
  if tmFit σ τ t.tm st.tm && t.pre.all (fun p => decide (0 < p.1) && decide (p.1 < t.nx) && decide (st.H.get (τ p.1) = some (p.2.sub σ τ)) && decide (τ p.1 < st.nx))
    && nodupB pre && st.H.lt st.nx && decide (0 < st.nx) && m.2.all (fun x => decide (x.2 < st.nx)) && t.outs.all (leafFit τ t.nx st.nx (ids t.pre)) then
    some (t.outs.map (leafSub σ τ t.nx st.H st.nx st.pa pre))
  else none

theorem isAny_iff (x : SV) : x.isAny = true ↔ x = SV.any := by
  unfold SV.isAny SV.any
  split
  · simp
  · rename_i h; simp; exact fun e => h e
theorem isAny_sub (σ : Nat → E) (τ : Nat → Nat) {x : SV} (h : x.isAny = true) : (x.sub σ τ).isAny = true := by
  rw [isAny_iff] at h; subst h; rfl

theorem tmFit_sound {σ : Nat → E} {τ : Nat → Nat} : ∀ {l r : List SV}, tmFit σ τ l r = true → l.length = r.length ∧ ∀ (d : Nat) (x : SV), l[d]? = some x → x.isAny = false → r[d]? = some (x.sub σ τ)
  | [], [], _ => ⟨rfl, fun d x h => by simp at h⟩
  | x :: l, y :: r, h => by
    simp only [tmFit, Bool.and_eq_true, Bool.or_eq_true, decide_eq_true_eq] at h
    obtain ⟨h1, h2⟩ := tmFit_sound h.2
    refine ⟨by simp [h1], fun d z hz hany => ?_⟩
    cases d with
    | zero =>
      simp at hz; subst hz
      rcases h.1 with h3 | h3
      · rw [h3] at hany; exact absurd hany (by simp)
      · simp [h3]
    | succ d => simpa using h2 d z (by simpa using hz) hany
  | [], _ :: _, h => by simp [tmFit] at h
  | _ :: _, [], h => by simp [tmFit] at h

theorem Tm.pull {σ : Nat → E} {τ : Nat → Nat} {l r : List SV} (hf : tmFit σ τ l r = true) (hm : Tm S n r a) (hany : ∀ (d : Nat) (x : SV), l[d]? = some x → x.isAny = false → (x.sub σ τ).isAny = false) :
    Tm S (n.pull S σ τ) l a := by
  obtain ⟨h1, h2⟩ := tmFit_sound hf
  refine ⟨⟨by rw [hm.1.1, h1], fun d x hx hx' => ?_⟩, hm.2⟩
  rw [hm.1.2 d _ (h2 d x hx hx') (hany d x hx hx'), SV.den_sub]

theorem sub_notAny {σ : Nat → E} {τ : Nat → Nat} {x : SV} (h : x.isAny = false) : (x.sub σ τ).isAny = false := by
  cases hb : (x.sub σ τ).isAny with
  | false => rfl
  | true =>
    rw [isAny_iff] at hb
    exfalso
    cases x with
    | one y => simp [SV.sub, SV.any] at hb
    | tup l =>
      simp only [SV.sub, SV.any, SV.tup.injEq] at hb
      match l, hb with
      | [.agg [], .agg []], _ => simp [SV.isAny] at h
      | [.agg (_ :: _), _], hb => simp [S2.sub] at hb
      | [.agg [], .agg (_ :: _)], hb => simp [S2.sub] at hb
      | [.agg [], .c _], hb => simp [S2.sub] at hb
      | [.c _, _], hb => simp [S2.sub] at hb

theorem Tm.push {σ : Nat → E} {τ : Nat → Nat} {l : List SV} (hm : Tm S (n.pull S σ τ) l a) : Tm S n (l.map (SV.sub σ τ)) a := by
  refine ⟨⟨by simp [hm.1.1], fun d x hx hx' => ?_⟩, hm.2⟩
  simp only [List.getElem?_map, Option.map_eq_some_iff] at hx
  obtain ⟨y, hy, rfl⟩ := hx
  have : y.isAny = false := by
    cases hb : y.isAny with
    | false => rfl
    | true => rw [isAny_sub σ τ hb] at hx'; exact absurd hx' (by simp)
  rw [hm.1.2 d y hy this, SV.den_sub]

theorem LoopT.at_sound {t : LoopT} {body : Code} (ht : t.ok S P body) {st : St} {ls : List Leaf} (hat : t.at st = some ls) {Q : Exit → Act → World → Prop}
    (hm : Mt S n o st a w) (hg : ∀ x ∈ ls, Good S Q n o w st.nx x) : (Code.loop body).wp P Q a w := by
  unfold LoopT.at at hat
  simp only at hat
  split at hat
  case isFalse => simp at hat
  rename_i hc
  simp only [Option.some.injEq] at hat
  generalize mH st.H t.pre (mSVs t.tm st.tm) = m at *
  have htau : (∀ x ∈ m.2, x.2 < st.nx) → 0 < st.nx → ∀ j, tauOf m.2 j < st.nx := by
    intro h1 h2 j
    unfold tauOf
    cases hf : m.2.find? (fun x => x.1 == j) with
    | none => simpa using h2
    | some x => simpa using h1 x (List.mem_of_find?_eq_some hf)
  generalize sigOf _ = σ at *
  generalize tauOf _ = τ at *
  subst hat
  simp only [Bool.and_eq_true, decide_eq_true_eq, List.all_eq_true] at hc
  obtain ⟨⟨⟨⟨⟨⟨htm, hpre⟩, hnd⟩, hlt⟩, h0nx⟩, hmb⟩, hfit⟩ := hc
  have htau := htau hmb h0nx
  obtain ⟨o1, hsat1, hback⟩ := match_core (k := t.nx) hm.sat hpre hnd hlt h0nx htau
  refine ht Q _ o1 w a (Tm.pull htm hm.tm fun _ _ _ h => sub_notAny h) hsat1 fun x hx => ?_
  have hgx := hg _ (List.mem_map.2 ⟨x, hx, rfl⟩)
  have hfx := hfit x hx
  obtain ⟨out, s⟩ := x
  by_cases hof : out = .fail
  · subst hof
    simp only [leafSub, if_true, Good] at hgx ⊢
    intro hpt
    refine hgx fun y hy => ?_
    rcases List.mem_append.1 hy with hy | hy
    · exact (PT.sub_iff (n := n) σ τ s.pa).2 hpt y hy
    · exact hm.pt y hy
  · have key : ∀ n1 ob a' w', Ext t.nx (n.pull S σ τ) n1 → Fr w o1 w' ob → t.nx ≤ s.nx → Mt S n1 ob s a' w' → Q out.exitOf a' w' := by
      intro n1 ob a' w' e1 e2 e3 e4
      simp only [leafFit, hof, decide_false, Bool.false_or, Bool.and_eq_true, List.all_eq_true, decide_eq_true_eq, Bool.or_eq_true] at hfx
      obtain ⟨n2, o2, henv, hsat2, hfr2, hext2⟩ := hback s.H w' n1 ob hfx.1 hfx.2 e4.sat e2 e1
      have hmt : Mt S n2 o2 ⟨s.tm.map (SV.sub σ (tau' τ t.nx st.nx)), SH.join (st.H.filter fun p => !(((ids t.pre).map τ).contains p.1)) (s.H.sub σ (tau' τ t.nx st.nx)), st.nx + (s.nx - t.nx), s.pa.sub σ ++ st.pa⟩ a' w' := by
        refine ⟨?_, hsat2, ?_⟩
        · have := e4.tm
          rw [← henv] at this
          exact this.push
        · intro y hy
          rw [hext2.v]
          rcases List.mem_append.1 hy with hy | hy
          · have hp := e4.pt
            rw [e1.v] at hp
            exact (PT.sub_iff (n := n) σ τ s.pa).2 hp y hy
          · exact hm.pt y hy
      have hl : leafSub σ τ t.nx st.H st.nx st.pa ((ids t.pre).map τ) (out, s) = (out, ⟨s.tm.map (SV.sub σ (tau' τ t.nx st.nx)), SH.join (st.H.filter fun p => !(((ids t.pre).map τ).contains p.1)) (s.H.sub σ (tau' τ t.nx st.nx)), st.nx + (s.nx - t.nx), s.pa.sub σ ++ st.pa⟩) := by
        simp only [leafSub, hof, if_false]
      rw [hl] at hgx
      cases out with
      | fail => exact absurd rfl hof
      | _ => exact hgx n2 o2 a' w' hext2 hfr2 (Nat.le_add_right _ _) hmt
    cases out with
    | fail => exact absurd rfl hof
    | _ => exact key

/-- Loops by their places. -/
def lhOf (tt : List (List Nat × LoopT)) : LH := fun p st => (tt.find? fun x => x.1 == p).bind fun x => x.2.at st
theorem lhOf_ok {tt : List (List Nat × LoopT)} {c : Code} (h : ∀ x ∈ tt, ∀ body, codeAt c x.1 = some (.loop body) → x.2.ok S P body) : LoopOK S P c (lhOf tt) := by
  intro p body st ls hb hl Q n o w a hm hg
  unfold lhOf at hl
  cases hf : tt.find? (fun x => x.1 == p) with
  | none => rw [hf] at hl; simp at hl
  | some x =>
    rw [hf] at hl
    have h2 := List.find?_some hf
    simp only [beq_iff_eq] at h2
    exact LoopT.at_sound (h x (List.mem_of_find?_eq_some hf) body (by rw [h2]; exact hb)) hl hm hg

end Go.Sx

/- The symbolic executor, part 17: how it is shown what a loop comes to: round by round. -/
namespace Go.Sx
open Go
set_option linter.unusedSimpArgs false
set_option linter.unusedVariables false

variable {U : Type} {S : Sig U} {n n' n0 : Env U} {P : Program} {T : Tab} {w w' : World} {a : Act} {o o' : Nat → Nat} {H : SH} {nx : Nat}

/-! the expressions that stand in it -/
def S1.es : S1 → List E
  | .int _ e | .bool e => [e]
  | .ptr _ e | .ifp _ _ e => [e]
  | .slice _ x y z => [x, y, z]
  | .vec _ _ e => [e]
  | .rp _ x y _ _ => [x, y]
  | _ => []
def S2.es : S2 → List E
  | .c x => x.es
  | .agg l => l.flatMap S1.es
def SV.es : SV → List E
  | .one x => x.es
  | .tup l => l.flatMap S2.es
def Blk.es : Blk → List E
  | .cells l => l.flatMap S1.es
  | .row _ g | .res _ g | .vec _ _ g => [g]
  | .chan x y => [x, y]
  | .inp _ x y z => [x, y, z]
def St.es (s : St) : List E := s.tm.flatMap SV.es ++ s.H.flatMap (fun p => p.2.es) ++ s.pa.map (·.1)

theorem S1.den_es (hr : n.rho = n'.rho) (ho : n.om = n'.om) {x : S1} (h : ∀ e ∈ x.es, e.den S n.v = e.den S n'.v) : x.den S n = x.den S n' := by
  cases x
  case clo f b y => cases b <;> cases y <;> simp [S1.den, hr]
  all_goals simp [S1.es, S1.den] at * <;> simp [*]
theorem cells_den_es (hr : n.rho = n'.rho) (ho : n.om = n'.om) {l : List S1} (h : ∀ e ∈ l.flatMap S1.es, e.den S n.v = e.den S n'.v) : cellsDen S n l = cellsDen S n' l :=
  List.map_congr_left fun x hx => S1.den_es hr ho fun e he => h e (List.mem_flatMap.2 ⟨x, hx, he⟩)
theorem S2.den_es (hr : n.rho = n'.rho) (ho : n.om = n'.om) {x : S2} (h : ∀ e ∈ x.es, e.den S n.v = e.den S n'.v) : x.den S n = x.den S n' := by
  cases x with
  | c x => exact S1.den_es hr ho h
  | agg l => simp only [S2.den]; rw [cells_den_es hr ho h]
theorem SV.den_es (hr : n.rho = n'.rho) (ho : n.om = n'.om) {x : SV} (h : ∀ e ∈ x.es, e.den S n.v = e.den S n'.v) : x.den S n = x.den S n' := by
  cases x with
  | one x => exact S2.den_es hr ho h
  | tup l =>
    simp only [SV.den]
    rw [List.map_congr_left fun x hx => S2.den_es hr ho fun e he => h e (List.mem_flatMap.2 ⟨x, hx, he⟩)]
theorem Blk.holds_es {h : Array Obj} {id : Nat} {x : Blk} (hr : n.rho = n'.rho) (ho : n.om = n'.om) (hh : ∀ e ∈ x.es, e.den S n.v = e.den S n'.v) (hx : x.holds S n o h id) : x.holds S n' o h id := by
  cases x with
  | cells l => simp only [Blk.holds] at *; rw [← hr, ← cells_den_es hr ho hh]; exact hx
  | row k g => simp only [Blk.holds] at *; rw [← hr, ← hh g (List.mem_singleton.2 rfl)]; exact hx
  | res k g => simp only [Blk.holds] at *; rw [← hr, ← hh g (List.mem_singleton.2 rfl)]; exact hx
  | vec c ks g => simp only [Blk.holds] at *; rw [← hr, ← hh g (List.mem_singleton.2 rfl)]; exact hx
  | chan x g => simp only [Blk.holds] at *; rw [← hr, ← hh g (by simp [Blk.es]), ← hh x (by simp [Blk.es])]; exact hx
  | inp ks x g y => simp only [Blk.holds] at *; rw [← hr, ← hh g (by simp [Blk.es]), ← hh x (by simp [Blk.es]), ← hh y (by simp [Blk.es])]; exact hx

theorem Mt.es {s : St} (hr : n.rho = n'.rho) (ho : n.om = n'.om) (hh : ∀ e ∈ s.es, e.den S n.v = e.den S n'.v) (hm : Mt S n o s a w) : Mt S n' o s a w := by
  have h1 : ∀ x ∈ s.tm, ∀ e ∈ x.es, e.den S n.v = e.den S n'.v := fun x hx e he => hh e (List.mem_append_left _ (List.mem_append_left _ (List.mem_flatMap.2 ⟨x, hx, he⟩)))
  refine ⟨⟨⟨hm.tm.1.1, fun d x hx hany => ?_⟩, hm.tm.2⟩, fun p hp => ⟨(hm.sat p hp).1, ?_⟩, fun x hx => ?_⟩
  · rw [← SV.den_es hr ho (h1 x (List.mem_of_getElem? hx))]
    exact hm.tm.1.2 d x hx hany
  · exact Blk.holds_es hr ho (fun e he => hh e (List.mem_append_left _ (List.mem_append_right _ (List.mem_flatMap.2 ⟨p, hp, he⟩)))) (hm.sat p hp).2
  · rw [← hh x.1 (List.mem_append_right _ (List.mem_map.2 ⟨x, hx, rfl⟩))]
    exact hm.pt x hx

/-- A round's end from which it goes on: the pattern again, at other values. -/
def NextOK (S : Sig U) (t : LoopT) (v : Nat → G U) (s : St) (σ : Nat → E) : Prop :=
  tmFit σ id t.tm s.tm = true ∧ ∀ p ∈ t.pre, ∃ b, s.H.get p.1 = some b ∧ Blk.eqv S v b (p.2.sub σ id)

/-- The same values, or whatever. -/
def tmEq (S : Sig U) (v : Nat → G U) : List SV → List SV → Prop
  | [], [] => True
  | x :: l, y :: r => (x.isAny = true ∨ y.isAny = false ∧ ∀ n : Env U, n.v = v → y.den S n = x.den S n) ∧ tmEq S v l r
  | _, _ => False

theorem tmEq_sound {v : Nat → G U} : ∀ {l r : List SV}, tmEq S v l r → l.length = r.length ∧ ∀ (d : Nat) (x : SV), l[d]? = some x → x.isAny = false → ∃ y, r[d]? = some y ∧ y.isAny = false ∧ ∀ n : Env U, n.v = v → y.den S n = x.den S n
  | [], [], _ => ⟨rfl, fun d x h => by simp at h⟩
  | x :: l, y :: r, h => by
    obtain ⟨h0, h3⟩ := h
    obtain ⟨h1, h2⟩ := tmEq_sound h3
    refine ⟨by simp [h1], fun d z hz hany => ?_⟩
    cases d with
    | zero =>
      simp at hz; subst hz
      rcases h0 with h4 | h4
      · rw [h4] at hany; exact absurd hany (by simp)
      · exact ⟨y, rfl, h4⟩
    | succ d => simpa using h2 d z (by simpa using hz) hany
  | [], _ :: _, h => h.elim
  | _ :: _, [], h => h.elim

/-- The pattern's temporaries stand there as they are, or are whatever. -/
def tmSame : List SV → List SV → Bool
  | [], [] => true
  | x :: l, y :: r => (x.isAny || (!y.isAny && decide (x = y))) && tmSame l r
  | _, _ => false
theorem tmSame_eq {v : Nat → G U} : ∀ {l r : List SV}, tmSame l r = true → tmEq S v l r
  | [], [], _ => trivial
  | x :: l, y :: r, h => by
    simp only [tmSame, Bool.and_eq_true, Bool.or_eq_true, decide_eq_true_eq, Bool.not_eq_true'] at h
    refine ⟨?_, tmSame_eq h.2⟩
    rcases h.1 with h1 | h1
    · exact .inl h1
    · exact .inr ⟨h1.1, fun n _ => by rw [h1.2]⟩
  | [], _ :: _, h => by simp [tmSame] at h
  | _ :: _, [], h => by simp [tmSame] at h

def ExitOK (S : Sig U) (v : Nat → G U) (s y : St) : Prop :=
  tmEq S v y.tm s.tm ∧ (∀ p ∈ y.H, ∃ b, s.H.get p.1 = some b ∧ Blk.eqv S v b p.2) ∧ PT S v y.pa

def RoundOK (S : Sig U) (t : LoopT) (μ : (Nat → G U) → Nat) (x : Leaf) (v : Nat → G U) : Prop :=
  match x.1 with
  | .fail => False
  | .norm => ∃ σ : Nat → E, NextOK S t v x.2 σ ∧ μ (fun j => (σ j).den S v) < μ v ∧
      ∀ y ∈ t.outs, (y.1 = .fail → ¬ PT S (fun j => (σ j).den S v) y.2.pa) ∧ (y.1 ≠ .fail → ∀ e ∈ y.2.es, e.den S (fun j => (σ j).den S v) = e.den S v)
  | out => ∃ y ∈ t.outs, y.1 = out ∧ ExitOK S v x.2 y.2

theorem LoopT.ok_of {f : St → Option (List Leaf)} {body : Code}
    (hf : ∀ (Q : Exit → Act → World → Prop) st ls (n : Env U) o w a, f st = some ls → Mt S n o st a w → (∀ x ∈ ls, Good S Q n o w st.nx x) → body.wp P Q a w)
    {t : LoopT} {ls : List Leaf} (hls : f ⟨t.tm, t.pre, t.nx, []⟩ = some ls) (μ : (Nat → G U) → Nat)
    (hnx : t.outs.all (fun y => decide (t.nx ≤ y.2.nx)) = true)
    (hstep : ∀ x ∈ ls, ∀ v : Nat → G U, PT S v x.2.pa → (∀ y ∈ t.outs, y.1 = .fail → ¬ PT S v y.2.pa) → RoundOK S t μ x v) : t.ok S P body := by
  intro Q n o w a htm hsat hg
  have main : ∀ (k : Nat) (n : Env U) (o : Nat → Nat) (w : World) (a : Act), μ n.v < k → Tm S n t.tm a → Sat S n o w.heap t.pre → (∀ x ∈ t.outs, Good S Q n o w t.nx x) → Code.rounds P body Q k a w := by
    intro k
    induction k with
    | zero => intro n o w a hk; exact absurd hk (Nat.not_lt_zero _)
    | succ k ih =>
      intro n o w a hk htm hsat hg
      rw [rounds_succ]
      refine hf _ _ ls n o w a hls ⟨htm, hsat, fun x hx => by cases hx⟩ fun x hx => ?_
      have hreq : ∀ y ∈ t.outs, y.1 = .fail → ¬ PT S n.v y.2.pa := fun y hy he => by
        have := hg y hy
        obtain ⟨yo, ys⟩ := y
        simp only at he; subst he
        exact this
      have hst := fun hp => hstep x hx n.v hp hreq
      obtain ⟨out, s⟩ := x
      have exits : out ≠ .norm → out ≠ .fail → ∀ n' o' a' w', Ext t.nx n n' → Fr w o w' o' → t.nx ≤ s.nx → Mt S n' o' s a' w' → Q out.exitOf a' w' := by
        intro h1 h2 n' o' a' w' e1 e2 e3 e4
        have hp := e4.pt
        rw [e1.v] at hp
        have hx := hst hp
        have hx' : ∃ y ∈ t.outs, y.1 = out ∧ ExitOK S n.v s y.2 := by
          cases out with
          | norm => exact absurd rfl h1
          | fail => exact absurd rfl h2
          | _ => exact hx
        obtain ⟨y, hy, ho, x1, x2, x3⟩ := hx'
        have hgy := hg y hy
        have hny := List.all_eq_true.1 hnx y hy
        simp only [decide_eq_true_eq] at hny
        obtain ⟨yo, ys⟩ := y
        simp only at ho; subst ho
        have hm : Mt S n' o' ys a' w' := by
          obtain ⟨q1, q2⟩ := tmEq_sound x1
          refine ⟨⟨⟨by rw [e4.tm.1.1, q1], fun d z hz hany => ?_⟩, e4.tm.2⟩, fun p hp => ?_, fun z hz => by rw [e1.v]; exact x3 z hz⟩
          · obtain ⟨u, hu, hu1, hu2⟩ := q2 d z hz hany
            rw [e4.tm.1.2 d u hu hu1, hu2 n' e1.v]
          · obtain ⟨b, hb, he⟩ := x2 p hp
            obtain ⟨g1, g2⟩ := e4.sat.get hb
            exact ⟨g1, he n' o' w'.heap p.1 e1.v g2⟩
        cases yo with
        | norm => exact absurd rfl h1
        | fail => exact absurd rfl h2
        | _ => exact hgy n' o' a' w' e1 e2 hny hm
      cases out with
      | fail => exact fun hp => hst hp
      | norm =>
        intro n' o' a' w' e1 e2 e3 e4
        show Code.rounds P body Q k a' w'
        have hp := e4.pt
        rw [e1.v] at hp
        obtain ⟨σ, ⟨f1, f2⟩, hmu, hy⟩ := hst hp
        have hv : (n'.pull S σ id).v = fun j => (σ j).den S n.v := by rw [← e1.v]; rfl
        refine ih (n'.pull S σ id) o' w' a' (by rw [hv]; omega) (Tm.pull f1 e4.tm fun _ _ _ h => sub_notAny h) (fun p hp => ?_) fun y hyo => ?_
        · obtain ⟨b, hb, he⟩ := f2 p hp
          obtain ⟨g1, g2⟩ := e4.sat.get hb
          exact ⟨g1, (Blk.holds_sub (o1 := o') (o := o') σ id fun _ _ => Iff.rfl).2 (he n' o' w'.heap p.1 e1.v g2)⟩
        · obtain ⟨h1, h2⟩ := hy y hyo
          have hgy := hg y hyo
          obtain ⟨yo, ys⟩ := y
          have go : yo ≠ .fail → ∀ n3 o3 a3 w3, Ext t.nx (n'.pull S σ id) n3 → Fr w' o' w3 o3 → Mt S n3 o3 ys a3 w3 →
              ∃ n4, Ext t.nx n n4 ∧ Mt S n4 o3 ys a3 w3 := by
            intro hne n3 o3 a3 w3 i1 i2 i4
            refine ⟨{ v := n.v, rho := n3.rho, om := n3.om, om1 := n3.om1 }, ⟨rfl, ?_, fun i hi => ?_⟩, Mt.es (n := n3) rfl rfl (fun e he => ?_) i4⟩
            · show n3.om = n.om
              rw [i1.om]; exact e1.om
            · show n3.rho i = n.rho i
              rw [i1.rho i hi]; exact e1.rho i hi
            · show e.den S n3.v = e.den S n.v
              rw [i1.v, hv]; exact h2 hne e he
          cases yo with
          | fail =>
            show ¬ PT S (n'.pull S σ id).v ys.pa
            rw [hv]; exact h1 rfl
          | _ =>
            intro n3 o3 a3 w3 i1 i2 i3 i4
            obtain ⟨n4, j1, j2⟩ := go (by simp) n3 o3 a3 w3 i1 i2 i4
            exact hgy n4 o3 a3 w3 j1 (e2.trans i2) i3 j2
      | _ => exact exits (by simp) (by simp)
  exact wp_loop_rounds (μ n.v + 1) (main (μ n.v + 1) n o w a (Nat.lt_succ_self _) htm hsat hg)

/-! ### templates of functions, in general -/
variable {L : Lang U} {N : Nat} {f : FuncId}

/-- One way out of a function; what is put together, what is besides. -/
structure OutG where
  ret : SV
  root : Option (Nat × Nat × E)
  rest : SH
  nxo : Nat
  pa : Path

def OutG.co (x : OutG) : CO := ⟨true, x.ret, rootH x.root ++ x.rest, x.nxo, x.pa⟩

theorem Tmpl.gen {call : List SV → SH → Nat → Path → Option (List CO)} (hat : CallAt (L.sig N) P f call) {t : Tmpl} {outs : List OutG}
    (houts : ∀ x ∈ outs, x.co ∈ t.outs)
    (hwf2 : ∀ x ∈ outs, ∀ r k e0, x.root = some (r, k, e0) → k < N ∧ ∀ sh ∈ L.kinds k, sh.H.klt k = true ∧ (ids sh.H).contains 1 = true)
    (hcase : ∃ cs, call t.args t.pre t.nx [] = some cs ∧
      ∀ c ∈ cs, ∀ v : Nat → G U, PT (L.sig N) v c.pa → (∀ y ∈ t.outs, y.ok = false → ¬ PT (L.sig N) v y.pa) → ∃ x ∈ outs, PT (L.sig N) v x.pa ∧ EndOK L N v c x.ret x.root x.rest) : t.ok (L.sig N) P f := by
  intro n o w hs hfail
  obtain ⟨cs, hcs, hall⟩ := hcase
  have hcall := hat t.args _ t.nx [] cs hcs n o w (fun x hx => by cases hx) hs (fun c hc hok hpt => by
    obtain ⟨x, _, _, h1⟩ := hall c hc n.v hpt hfail
    rw [h1.1] at hok; exact absurd hok (by simp))
  refine Calls.mono hcall ?_
  rintro e w' ⟨c, hc, hok, hpt, n3, o3, rfl, hs3, hfr, hext, _⟩
  obtain ⟨x, hx, hpx, hend⟩ := hall c hc n.v hpt hfail
  have hpx' := hpx
  rw [← hext.v] at hend
  obtain ⟨o4, hs4, hz4⟩ := hend.sat (hwf2 x hx) hs3
  refine ⟨x.co, houts x hx, rfl, hpx', n3, o4, by rw [hend.2.1 n3 rfl]; rfl, hs4, ?_, hext⟩
  refine ⟨hfr.os, hfr.tape, hfr.output, hfr.size, fun y hy h0 => ?_⟩
  obtain ⟨h1, h2⟩ := hfr.same y hy h0
  exact ⟨hz4 y (Nat.lt_of_lt_of_le hy hfr.size) h1, h2⟩

end Go.Sx
