/- From a template to what a statement's walk asks. -/
import Derived.Test.YtdkjpjiljplahaaGreatMc
import Derived.Below
import Derived.Test.YtdkjpjiljplahaaGreatRows
import Derived.ChangeArms
import Derived.Deep.Strs
namespace Go.Fl
open Go Go.Sx Go.Proofs Go.RowKit

/-- nothing is added -/
instance ext0 : ExtF := { x1 := fun _ a => a, x2 := fun _ a _ => a, x3 := fun _ a _ _ => a, x4 := fun _ a _ _ _ => a, ks := fun _ => [], ok := fun _ _ h => by cases h }

theorem walk_of [ExtF] {g : GSpec} {f : FuncId} (h : g.t.ok SG prog f) (hpre : g.pre = []) (hreq : g.reqs = []) (hout : ∀ x ∈ g.outs, x.ret = .one (.c (.bool (.bool true)))) (v : V) (w : World) :
    Calls prog f (g.args.map (SV.den SG (envAt v))).toArray w fun e w' => e = .returned (.bool true) ∧ Below w.heap.size w w' := by
  refine Calls.mono (h (envAt v) (fun _ => 0) w (by intro p hp; rw [show g.t.pre = [] from hpre] at hp; cases hp) (fun c hc hok => ?_)) ?_
  · exfalso
    have : g.t.outs = g.outs.map OutG.co := by simp [GSpec.t, hreq]
    rw [this] at hc
    obtain ⟨x, _, rfl⟩ := List.mem_map.1 hc
    simp [OutG.co] at hok
  · rintro e w' ⟨c, hc, hok, hpt, n', o', rfl, hs, hfr, hext⟩
    have : g.t.outs = g.outs.map OutG.co := by simp [GSpec.t, hreq]
    rw [this] at hc
    obtain ⟨x, hx, rfl⟩ := List.mem_map.1 hc
    refine ⟨?_, hfr.os, hfr.tape, hfr.output, hfr.size, fun k hk => (hfr.same k hk rfl).2⟩
    rw [show (OutG.co x).ret = x.ret from rfl, hout x hx]; rfl
end Go.Fl

/- The frame of statements to which a row of records comes. -/
namespace Go.Fl
open Go Go.Sx Go.Proofs Go.RowKit Go.ChangeShapes Go.WideShapes

/-- as 'walk_of', where one row came in: piece number p -/
theorem walk_row [ExtF] {g : GSpec} {f : FuncId} (h : g.t.ok SG prog f) {b : Blk} {x : E} {ks : List RK} {off gg : E} (hb : b = .inp ks off gg x) (p : Nat) (hp0 : 0 < p) (hpre : g.pre = [(p, b)]) (hnx : p < g.nx) (hreq : g.reqs = [])
    (hout : ∀ y ∈ g.outs, y.ret = .one (.c (.bool (.bool true))) ∧ (p, b) ∈ y.rest) (n : Env U) (w : World) (ob : Obj) (hx : (x.den SG n.v) = .obj ob)
    (hob : w.heap[n.rho p]? = some ob) (hk : 0 < ks.length) (hm : (gg.den SG n.v).toInts.length % ks.length = 0)
    (hc : ∀ j v, (recVals ks (gg.den SG n.v).toInts)[j]? = some v → (objCells ob)[(off.den SG n.v).toInt.toNat + j]? = some v) :
    Calls prog f (g.args.map (SV.den SG n)).toArray w fun e w' => e = .returned (.bool true) ∧ Below w.heap.size w w' := by
  subst hb
  have hsat : Sat SG n (fun b => if b = n.rho p then p else 0) w.heap g.t.pre := by
    intro q hq
    rw [show g.t.pre = _ from hpre] at hq
    rw [List.mem_singleton.1 hq]
    exact ⟨hp0, if_pos rfl, hk, hm, ob, by rw [hx]; rfl, hob, hc⟩
  have houts : g.t.outs = g.outs.map OutG.co := by simp [GSpec.t, hreq]
  refine Calls.mono (h n (fun b => if b = n.rho p then p else 0) w hsat (fun c hc hok => ?_)) ?_
  · exfalso
    rw [houts] at hc
    obtain ⟨x, _, rfl⟩ := List.mem_map.1 hc
    simp [OutG.co] at hok
  · rintro e w' ⟨c, hc, hok, hpt, n', o', rfl, hs, hfr, hext⟩
    rw [houts] at hc
    obtain ⟨y, hy, rfl⟩ := List.mem_map.1 hc
    obtain ⟨h1, h2⟩ := hout y hy
    refine ⟨?_, hfr.os, hfr.tape, hfr.output, hfr.size, fun k hk => ?_⟩
    · rw [show (OutG.co y).ret = y.ret from rfl, h1]; rfl
    · by_cases hkp : k = n.rho p
      · have h3 := (hs (p, _) (List.mem_append_right _ h2)).2
        simp only [Blk.holds] at h3
        obtain ⟨_, _, _, ob', e1, e2, _⟩ := h3
        have e3 : n'.rho p = n.rho p := hext.rho p (by show p < g.t.nx; have : g.t.nx = g.nx := rfl; omega)
        rw [hext.v, hx] at e1
        simp only [G.toObj, Option.some.injEq] at e1
        subst e1
        rw [hkp, hob, ← e3]; exact e2
      · exact (hfr.same k hk (if_neg hkp)).2

theorem recVals_i64 {ks : List RK} (hk : 0 < ks.length) (hks : ∀ k ∈ ks, k = .int .i64) (g : List Int) : recVals ks g = g.map (Value.int .i64) := by
  apply List.ext_getElem?
  intro j
  simp only [recVals, List.getElem?_map, List.getElem?_zipIdx]
  cases g[j]? with
  | none => rfl
  | some n =>
    simp only [Option.map_some, Nat.zero_add, cellOf]
    have hj : j % ks.length < ks.length := Nat.mod_lt _ hk
    rw [show ks.getD (j % ks.length) .bool = .int .i64 by
      rw [List.getD_eq_getElem?_getD, List.getElem?_eq_getElem hj]; exact hks _ (List.getElem_mem hj)]
    rfl

/-- a row of numbers that came in, of so many records -/
structure RowIn (W : World) (v : Value) (sz : Nat) (blk off len cap : Nat) (g : List Int) (ob : Obj) : Prop where
  val : v = .slice (some ⟨blk, off, none⟩) len cap
  len : g.length = len * sz
  heap : W.heap[blk]? = some ob
  cells : ∀ j x, (g.map (Value.int .i64))[j]? = some x → (objCells ob)[off + j]? = some x

section
variable {H : Type} {enc : TypeId × Value → H} {P : Program} {W : World} {r : Reach} {base : Nat}
theorem okWide_slice {t e : TypeId} {v : Value} (ht : P.underlying t = some (.slice e)) (h : Value.okWide P W r base t v) :
    v = .slice none 0 0 ∨ ∃ blk off len cap cs ty fr, v = .slice (some ⟨blk, off, none⟩) len cap ∧ W.heap[blk]? = some (.cells cs ty fr) := by
  unfold Value.okWide at h
  rw [ht] at h
  simp only [Cell.okWide, Cell.ok, ht] at h
  split at h <;> simp_all
  rename_i a len cap he
  obtain ⟨_, _, h⟩ := h
  obtain ⟨_, hs, row, cells, h1, _⟩ := h
  unfold World.shape? at h1
  split at h1
  · rename_i c el fr hh
    obtain ⟨b, o, s⟩ := a
    subst hs
    exact ⟨_, ⟨_, rfl⟩, _, _, fr.1, fr.2, hh⟩
  · cases h1
theorem row_in {t e : TypeId} {v : Value} {d : DataW H} {p : List MemPlace} {sz : Nat} (ht : P.underlying t = some (.slice e)) (hsz : P.cellsOf e = sz) (h0 : 0 < sz)
    (hel : ∀ (n : Nat) (cs : List Value) (x : DataW H × List MemPlace), cs.length = sz → DataW.trod enc P W 0 (fun _ => true) true n e cs = some x → ∀ k, k < sz → ∃ m, cs[k]? = some (.int .i64 m))
    (hv : Value.okWide P W r base t v) (h : DataW.Trod enc P W 0 (fun _ => true) true t v d p) :
    v = .slice none 0 0 ∨ ∃ blk off len cap g ob, RowIn W v sz blk off len cap g ob := by
  rcases okWide_slice ht hv with rfl | ⟨blk, off, len, cap, cs, ty, fr, rfl, hh⟩
  · exact .inl rfl
  right
  obtain ⟨n, hn⟩ := h
  rcases Go.Deep.open_slice ht hn with ⟨hc, _⟩ | ⟨a, len', cap', m, n', D, Pl, hc, _, hl, _, hm, _, hx⟩
  · simp [Value.cells] at hc
  · simp only [Value.cells, List.cons.injEq, Value.slice.injEq, Option.some.injEq, and_true] at hc
    obtain ⟨rfl, rfl, rfl⟩ := hc
    simp only [if_true] at hm
    subst hm
    have each : ∀ j, j < len * sz → ∃ q : Int, (objCells (.cells cs ty fr))[off + j]? = some (.int .i64 q) := fun j hj => by
      have hi : j / sz < len := Nat.div_lt_of_lt_mul (by rw [Nat.mul_comm]; exact hj)
      have hr : j % sz < sz := Nat.mod_lt _ h0
      obtain ⟨cs', h1, h2⟩ := hx (j / sz) (by omega)
      rw [hsz] at h1
      unfold World.cells? at h1
      rw [if_pos (Nat.zero_le _)] at h1
      have hlen : cs'.length = sz := by have := mapM_some_length h1; simpa using this
      obtain ⟨q, hq⟩ := hel n' cs' _ hlen h2 (j % sz) hr
      have h3 := mapM_some_get h1 (j % sz) (j % sz) (by simp [hr])
      rw [hq, Go.Sx.add_plain, Go.Sx.add_plain, cell_of_heap hh] at h3
      refine ⟨q, ?_⟩
      simp only [objCells]
      rw [show off + j = off + j / sz * sz + j % sz by rw [Nat.add_assoc, Nat.mul_comm, Nat.div_add_mod]]
      simpa using h3
    obtain ⟨N, hN⟩ := Go.Deep.choose_lt each
    refine ⟨blk, off, len, _, (List.range (len * sz)).map N, .cells cs ty fr, rfl, by simp, hh, fun j x hj => ?_⟩
    rw [List.map_map, List.getElem?_map, Option.map_eq_some_iff] at hj
    obtain ⟨k, hk, rfl⟩ := hj
    obtain ⟨hk1, hk2⟩ := List.getElem?_eq_some_iff.1 hk
    simp only [List.getElem_range] at hk2
    subst hk2
    exact hN _ (by simpa using hk1)
end
end Go.Fl
