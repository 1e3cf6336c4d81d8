/- ListAlone: whatever the input, the law returns true and leaves its input as it was. The frame follows the kit's printed shells, the walk is mine. -/
import Derived.Test.YtdkjpjiljplahaaGreatRows
import Derived.WalkKit
import Derived.ProofKit
import Derived.OpenShut
import Derived.Below
import Derived.Carry
import Derived.ChangeArms
import Derived.Lib.SmallJoins
import Derived.Test.YtdkjpjiljplahaaGreatMz
import Derived.Test.YtdkjpjiljplahaaGreatMm
import Derived.Test.YtdkjpjiljplahaaGreatMs
namespace Go.Proofs.YtdkjpjiljplahaaGreat.listAlone
open Go.ChangeShapes Go.WideShapes Go.ChangeAt Go.RowKit
set_option linter.unusedVariables false

set_option maxRecDepth 100000 in
theorem want_cells {H : Type} {enc : TypeId × Value → H} {W : World} (n : Nat) (cs : List Value) (x : DataW H × List MemPlace) (hl : cs.length = 3)
    (h : DataW.trod enc Tryz.prog W 0 (fun _ => true) true n 55 cs = some x) (k : Nat) (hk : k < 3) : ∃ m, cs[k]? = some (.int .i64 m) := by
  obtain ⟨y0, y1, y2, n', _, _, h0, h1, h2⟩ := Go.Deep.trod_struct3 Tryz.underlying55 h
  have hc : Tryz.prog.cellsOf 3 = 1 := by kernel_rfl
  obtain ⟨m0, e0, _, _⟩ := DataW.trod_int Tryz.underlying3 h0
  obtain ⟨m1, e1, _, _⟩ := DataW.trod_int Tryz.underlying3 h1
  obtain ⟨m2, e2, _, _⟩ := DataW.trod_int Tryz.underlying3 h2
  simp only [hc] at e0 e1 e2
  match cs, hl with
  | [c0, c1, c2], _ =>
    simp only [List.drop_zero, List.drop_succ_cons, List.take_succ_cons, List.take_zero, List.cons.injEq, and_true] at e0 e1 e2
    subst e0; subst e1; subst e2
    match k, hk with
    | 0, _ => exact ⟨m0, rfl⟩
    | 1, _ => exact ⟨m1, rfl⟩
    | 2, _ => exact ⟨m2, rfl⟩

theorem walk {v : Value} {W : World} (h : v = .slice none 0 0 ∨ ∃ blk off len cap g ob, Go.Fl.RowIn W v 3 blk off len cap g ob) :
    Calls Tryz.prog 7 #[v] W fun e w' => e = .returned (.bool true) ∧ Below W.heap.size W w' := by
  rcases h with rfl | ⟨blk, off, len, cap, g, ob, hr⟩
  · exact Go.Fl.walk_of (g := Go.Fl.gAloneN) Go.Fl.gAloneN_ok rfl rfl (fun x hx => by rw [List.mem_singleton.1 hx]; rfl) (fun _ => .int 0) W
  · have e := Go.Fl.walk_row (g := Go.Fl.gAlone) Go.Fl.gAlone_ok (b := Go.Fl.inBA) rfl 5 (by decide) rfl (by decide) rfl (fun y hy => by rw [List.mem_singleton.1 hy]; exact ⟨rfl, .head _⟩)
      ⟨fun j => match j with | 1 => .int off | 2 => .ints g | 3 => .obj ob | 4 => .int cap | _ => .int 0, fun _ => blk, fun _ => .bool false, fun _ => rfl⟩ W ob rfl hr.heap (by decide)
      (by show g.length % 3 = 0; rw [hr.len]; exact Nat.mul_mod_left _ _)
      (fun j x hj => by
        rw [Go.Fl.recVals_i64 (by decide) (by decide)] at hj
        exact hr.cells j x hj)
    have ev : v = .slice (some ⟨blk, ((off : Int)).toNat, none⟩) (((g.length / 3 : Nat) : Int)).toNat ((cap : Int)).toNat := by
      rw [hr.val, hr.len, Int.toNat_natCast, Int.toNat_natCast, Int.toNat_natCast, Nat.mul_div_cancel _ (by decide)]
    rw [ev]; exact e

set_option maxRecDepth 100000 in
theorem lifted (os : Os) (started : os.Started) (H : Type) (enc : TypeId × Value → H) :
    ReturnsInHanded {} Tryz.checked os 7 .any (Rows.listAloneSpec.pre6 enc Tryz.prog Tryz.f7 Rows.listAloneRow.domain false) (Rows.listAloneSpec.post enc Tryz.prog Tryz.f7 false true false false) := by
  refine returnsInHanded_of_change (C := Tryz.checked) own_knob started (by kernel_rfl) Tryz.func7
    (ChangeSpec.witness6 (enc := enc) (C := Tryz.checked) false ⟨#[], #[.slice none 0 0], []⟩ 8 (by kernel_rfl) (by kernel_rfl) (by kernel_rfl) (by kernel_rfl)) ?_
  intro W base args ds gs before hval0 hW hcnd _
  have hval : ∀ (j : Nat) t v, Tryz.f7.params[j]? = some t → args[j]? = some v → Value.okWide Tryz.prog W .any base t v := hval0
  have hW' := hW
  obtain ⟨p, q, hA0, hV, rfl, hfz, hnd⟩ := hW
  have hA : DataW.TrodAll enc Tryz.prog W 0 (fun _ => true) true Tryz.f7.params.toList args.toList ds p := hA0
  rw [Tryz.params7] at hA hval
  obtain ⟨v0, vs0, d0, ds0, p0, q0, hargs, rfl, rfl, h0, r0⟩ := trodAll_cons hA
  obtain ⟨rfl, rfl, rfl⟩ := trodAll_nil r0
  obtain rfl : args = #[v0] := by cases args; simp_all
  obtain ⟨rfl, rfl⟩ := trodVars_none hV
  have k0 := h0
  have lt0 : ∀ x ∈ p0, x.block < W.heap.size := by obtain ⟨m, hm⟩ := k0; exact DataW.trod_lt m _ _ _ hm
  have row := Go.Fl.row_in Tryz.underlying52 (sz := 3) (by kernel_rfl) (by decide) want_cells (hval 0 52 v0 rfl rfl) h0
  clear hA0 hval0
  simp only [List.append_nil] at hW'
  refine (walk row).mono fun e W' ⟨he, bel⟩ => ?_
  subst he
  exact ⟨_, rfl, _, _, _, [], _, [], hW', trodAll_mk1 (shut_bool Tryz.underlying4 _),
    (trodAll_cons_mk (Below.trod laid_out (by kernel_rfl) (of_decide_eq_true (by kernel_rfl)) k0 bel lt0) trodAll_mk0), rfl, bel.frame _, fun h => by cases h⟩

set_option maxHeartbeats 8000000 in
theorem closed : joinedFacts Tryz.checked.prog 7 Tryz.f7 Rows.listAloneSpec Rows.listAloneRow = true :=
  joined_of (by as_aux_lemma => kernel_rfl) laid_out maps_rowed (by as_aux_lemma => kernel_rfl) (by as_aux_lemma => kernel_rfl) (by as_aux_lemma => kernel_rfl) stops_no (by as_aux_lemma => kernel_rfl) knobs_no (by as_aux_lemma => kernel_rfl) (by as_aux_lemma => kernel_rfl) (by as_aux_lemma => kernel_rfl) (by as_aux_lemma => kernel_rfl) (by as_aux_lemma => kernel_rfl) (by as_aux_lemma => kernel_rfl) (by as_aux_lemma => kernel_rfl) (by as_aux_lemma => kernel_rfl) (by as_aux_lemma => kernel_rfl) (by as_aux_lemma => kernel_rfl) (by as_aux_lemma => kernel_rfl) (by as_aux_lemma => kernel_rfl) (by as_aux_lemma => kernel_rfl) (by as_aux_lemma => kernel_rfl) (by as_aux_lemma => kernel_rfl) stops_heard may_enter' (lifted_ok rfl) (make_ok rfl) (by as_aux_lemma => kernel_rfl) (by as_aux_lemma => kernel_rfl) (by as_aux_lemma => kernel_rfl) (by as_aux_lemma => kernel_rfl)

theorem over : Rows.listAloneRow.holds Tryz.pinned (OpenSpec.ofChange Rows.listAloneSpec) :=
  OpenClaim.holds_of_wide 7 Tryz.f7 rfl rfl rfl rfl rfl rfl rfl ⟨rfl, rfl, rfl, rfl, rfl⟩ rfl rfl rfl rfl rfl (by as_aux_lemma => kernel_rfl) Tryz.func7 closed
    (of_decide_eq_true (by kernel_rfl)) (by unfold Func.isWrapper; first | (rw [if_pos (by decide +kernel)]; kernel_rfl) | (rw [if_neg (by decide +kernel)]; exact ⟨rfl, rfl⟩))
    (fun os started H enc _ => lifted os started H enc)

/-- the statement -/
theorem proved : Rows.ListAloneSaid := over
#print axioms proved
end Go.Proofs.YtdkjpjiljplahaaGreat.listAlone
