/- ListFull: whatever the input, the law returns true and leaves its input as it was. The frame follows the kit's printed shells, the walk is mine. -/
import Derived.Test.YtdkjpjiljplahaaGreatRows
import Derived.WalkKit
import Derived.ProofKit
import Derived.OpenShut
import Derived.Below
import Derived.Carry
import Derived.ChangeArms
import Derived.Lib.SmallJoins
import Derived.Test.YtdkjpjiljplahaaGreatMz
import Derived.Test.YtdkjpjiljplahaaGreatMm
import Derived.Test.YtdkjpjiljplahaaGreatMu
namespace Go.Proofs.YtdkjpjiljplahaaGreat.listFull
open Go.ChangeShapes Go.WideShapes Go.ChangeAt Go.RowKit
set_option linter.unusedVariables false

theorem int_cells {H : Type} {enc : TypeId × Value → H} {W : World} (n : Nat) (cs : List Value) (x : DataW H × List MemPlace) (hl : cs.length = 1)
    (h : DataW.trod enc Tryz.prog W 0 (fun _ => true) true n 3 cs = some x) (k : Nat) (hk : k < 1) : ∃ m, cs[k]? = some (.int .i64 m) := by
  obtain ⟨m0, rfl, _, _⟩ := DataW.trod_int Tryz.underlying3 h
  obtain rfl : k = 0 := by omega
  exact ⟨m0, rfl⟩

theorem walk (a0 : Int) {v : Value} {W : World} (h : v = .slice none 0 0 ∨ ∃ blk off len cap g ob, Go.Fl.RowIn W v 1 blk off len cap g ob) :
    Calls Tryz.prog 9 #[.int .i64 a0, v] W fun e w' => e = .returned (.bool true) ∧ Below W.heap.size W w' := by
  rcases h with rfl | ⟨blk, off, len, cap, g, ob, hr⟩
  · exact Go.Fl.walk_of (g := Go.Fl.gFullN) Go.Fl.gFullN_ok rfl rfl (fun x hx => by rw [List.mem_singleton.1 hx]; rfl) (fun j => match j with | 6 => .int a0 | _ => .int 0) W
  · have e := Go.Fl.walk_row (g := Go.Fl.gFull) Go.Fl.gFull_ok (b := Go.Fl.inBF) rfl 5 (by decide) rfl (by decide) rfl (fun y hy => by rw [List.mem_singleton.1 hy]; exact ⟨rfl, .head _⟩)
      ⟨fun j => match j with | 1 => .int off | 2 => .ints g | 3 => .obj ob | 4 => .int cap | 6 => .int a0 | _ => .int 0, fun _ => blk, fun _ => .bool false, fun _ => rfl⟩ W ob rfl hr.heap (by decide)
      (by show g.length % 1 = 0; exact Nat.mod_one _)
      (fun j x hj => by
        rw [Go.Fl.recVals_i64 (by decide) (by decide)] at hj
        exact hr.cells j x hj)
    have ev : v = .slice (some ⟨blk, ((off : Int)).toNat, none⟩) (((g.length / 1 : Nat) : Int)).toNat ((cap : Int)).toNat := by
      rw [hr.val, hr.len, Int.toNat_natCast, Int.toNat_natCast, Int.toNat_natCast, Nat.div_one, Nat.mul_one]
    rw [ev]; exact e

set_option maxRecDepth 100000 in
theorem lifted (os : Os) (started : os.Started) (H : Type) (enc : TypeId × Value → H) :
    ReturnsInHanded {} Tryz.checked os 9 .any (Rows.listFullSpec.pre6 enc Tryz.prog Tryz.f9 Rows.listFullRow.domain false) (Rows.listFullSpec.post enc Tryz.prog Tryz.f9 false true false false) := by
  refine returnsInHanded_of_change (C := Tryz.checked) own_knob started (by kernel_rfl) Tryz.func9
    (ChangeSpec.witness6 (enc := enc) (C := Tryz.checked) false ⟨#[], #[.int .i64 0, .slice none 0 0], []⟩ 8 (by kernel_rfl) (by kernel_rfl) (by kernel_rfl) (by kernel_rfl)) ?_
  intro W base args ds gs before hval0 hW hcnd _
  have hval : ∀ (j : Nat) t v, Tryz.f9.params[j]? = some t → args[j]? = some v → Value.okWide Tryz.prog W .any base t v := hval0
  have hW' := hW
  obtain ⟨p, q, hA0, hV, rfl, hfz, hnd⟩ := hW
  have hA : DataW.TrodAll enc Tryz.prog W 0 (fun _ => true) true Tryz.f9.params.toList args.toList ds p := hA0
  rw [Tryz.params9] at hA hval
  obtain ⟨v0, vs0, d0, ds0, p0, q0, hargs, rfl, rfl, h0, r0⟩ := trodAll_cons hA
  obtain ⟨v1, vs1, d1, ds1, p1, q1, rfl, rfl, rfl, h1, r1⟩ := trodAll_cons r0
  obtain ⟨rfl, rfl, rfl⟩ := trodAll_nil r1
  obtain rfl : args = #[v0, v1] := by cases args; simp_all
  obtain ⟨rfl, rfl⟩ := trodVars_none hV
  have k1 := h1
  have lt1 : ∀ x ∈ p1, x.block < W.heap.size := by obtain ⟨m, hm⟩ := k1; exact DataW.trod_lt m _ _ _ hm
  have row := Go.Fl.row_in Tryz.underlying47 (sz := 1) (by kernel_rfl) (by decide) int_cells (hval 1 47 v1 rfl rfl) h1
  obtain ⟨a0, rfl, rfl, rfl, w0⟩ := open_int Tryz.underlying3 (hval 0 3 v0 rfl rfl) h0
  clear hA0 hval0
  simp only [List.append_nil] at hW'
  refine (walk a0 row).mono fun e W' ⟨he, bel⟩ => ?_
  subst he
  exact ⟨_, rfl, _, _, _, [], _, [], hW', trodAll_mk1 (shut_bool Tryz.underlying4 _),
    (trodAll_cons_mk (shut_int Tryz.underlying3 w0) (trodAll_cons_mk (Below.trod laid_out (by kernel_rfl) (of_decide_eq_true (by kernel_rfl)) k1 bel lt1) trodAll_mk0)), rfl, bel.frame _, fun h => by cases h⟩

set_option maxHeartbeats 8000000 in
theorem closed : joinedFacts Tryz.checked.prog 9 Tryz.f9 Rows.listFullSpec Rows.listFullRow = true :=
  joined_of (by as_aux_lemma => kernel_rfl) laid_out maps_rowed (by as_aux_lemma => kernel_rfl) (by as_aux_lemma => kernel_rfl) (by as_aux_lemma => kernel_rfl) stops_no (by as_aux_lemma => kernel_rfl) knobs_no (by as_aux_lemma => kernel_rfl) (by as_aux_lemma => kernel_rfl) (by as_aux_lemma => kernel_rfl) (by as_aux_lemma => kernel_rfl) (by as_aux_lemma => kernel_rfl) (by as_aux_lemma => kernel_rfl) (by as_aux_lemma => kernel_rfl) (by as_aux_lemma => kernel_rfl) (by as_aux_lemma => kernel_rfl) (by as_aux_lemma => kernel_rfl) (by as_aux_lemma => kernel_rfl) (by as_aux_lemma => kernel_rfl) (by as_aux_lemma => kernel_rfl) (by as_aux_lemma => kernel_rfl) (by as_aux_lemma => kernel_rfl) stops_heard may_enter' (lifted_ok rfl) (make_ok rfl) (by as_aux_lemma => kernel_rfl) (by as_aux_lemma => kernel_rfl) (by as_aux_lemma => kernel_rfl) (by as_aux_lemma => kernel_rfl)

theorem over : Rows.listFullRow.holds Tryz.pinned (OpenSpec.ofChange Rows.listFullSpec) :=
  OpenClaim.holds_of_wide 9 Tryz.f9 rfl rfl rfl rfl rfl rfl rfl ⟨rfl, rfl, rfl, rfl, rfl⟩ rfl rfl rfl rfl rfl (by as_aux_lemma => kernel_rfl) Tryz.func9 closed
    (of_decide_eq_true (by kernel_rfl)) (by unfold Func.isWrapper; first | (rw [if_pos (by decide +kernel)]; kernel_rfl) | (rw [if_neg (by decide +kernel)]; exact ⟨rfl, rfl⟩))
    (fun os started H enc _ => lifted os started H enc)

/-- the statement -/
theorem proved : Rows.ListFullSaid := over
#print axioms proved
end Go.Proofs.YtdkjpjiljplahaaGreat.listFull
