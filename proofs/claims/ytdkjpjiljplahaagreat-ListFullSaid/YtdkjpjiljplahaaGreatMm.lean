/- The closed facts of a statement's frame that ask the order of beginning: its words are many, so they are laid out first. The numbers were printed by a program of mine. -/
import Derived.Test.YtdkjpjiljplahaaGreatRows
import Derived.WalkKit
import Derived.ProofKit
namespace Go.Proofs.YtdkjpjiljplahaaGreat
open Go.ChangeShapes Go.WideShapes Go.ChangeAt Go.RowKit

def sp : Char := Char.ofNat 32
def io1 : List Char := ([104, 97, 114, 110, 101, 115, 115] : List Nat).map Char.ofNat
def io2 : List Char := ([100, 100, 57, 51, 101, 97, 51, 101, 55, 55, 99, 50, 102, 97, 54, 101, 52, 50, 54, 52, 99, 48, 48, 53, 52, 52, 52, 53, 56, 55, 54, 97, 102, 99, 55, 49, 50, 97, 97, 98, 48, 98, 52, 101, 97, 48, 51, 99, 54, 100, 51, 53, 98, 51, 49, 98, 54, 98, 100, 50, 101, 54, 100, 57] : List Nat).map Char.ofNat
def io3 : List Char := ([99, 117, 116] : List Nat).map Char.ofNat
def ioR : List Char := ([97, 116, 32, 102, 111, 111, 116, 108, 111, 99, 107, 101, 114, 47, 102, 111, 111, 116, 108, 111, 99, 107, 101, 114, 108, 97, 119, 49, 54, 46, 76, 105, 115, 116, 76, 105, 110, 107, 115, 32, 102, 111, 111, 116, 108, 111, 99, 107, 101, 114, 47, 102, 111, 111, 116, 108, 111, 99, 107, 101, 114, 108, 97, 119, 49, 54, 46, 76, 105, 115, 116, 78, 111, 110, 101, 32, 102, 111, 111, 116, 108, 111, 99, 107, 101, 114, 47, 102, 111, 111, 116, 108, 111, 99, 107, 101, 114, 108, 97, 119, 49, 54, 46, 76, 105, 115, 116, 79, 110, 99, 101, 32, 102, 111, 111, 116, 108, 111, 99, 107, 101, 114, 47, 102, 111, 111, 116, 108, 111, 99, 107, 101, 114, 108, 97, 119, 49, 54, 46, 76, 105, 115, 116, 83, 116, 117, 99, 107, 32, 102, 111, 111, 116, 108, 111, 99, 107, 101, 114, 47, 102, 111, 111, 116, 108, 111, 99, 107, 101, 114, 108, 97, 119, 49, 54, 46, 76, 105, 115, 116, 65, 108, 111, 110, 101, 32, 102, 111, 111, 116, 108, 111, 99, 107, 101, 114, 47, 102, 111, 111, 116, 108, 111, 99, 107, 101, 114, 108, 97, 119, 49, 54, 46, 76, 105, 115, 116, 83, 104, 97, 114, 101, 115, 32, 102, 111, 111, 116, 108, 111, 99, 107, 101, 114, 47, 102, 111, 111, 116, 108, 111, 99, 107, 101, 114, 108, 97, 119, 49, 54, 46, 76, 105, 115, 116, 70, 117, 108, 108, 32, 102, 111, 111, 116, 108, 111, 99, 107, 101, 114, 47, 102, 111, 111, 116, 108, 111, 99, 107, 101, 114, 116, 111, 112, 46, 70, 111, 111, 116, 108, 111, 99, 107, 101, 114, 83, 116, 105, 108, 108, 32, 102, 111, 111, 116, 108, 111, 99, 107, 101, 114, 47, 102, 111, 111, 116, 108, 111, 99, 107, 101, 114, 108, 97, 119, 49, 54, 46, 76, 105, 115, 116, 83, 116, 101, 112, 115, 32, 102, 111, 111, 116, 108, 111, 99, 107, 101, 114, 47, 102, 111, 111, 116, 108, 111, 99, 107, 101, 114, 116, 111, 112, 46, 70, 111, 111, 116, 108, 111, 99, 107, 101, 114, 76, 111, 115, 116, 32, 102, 111, 111, 116, 108, 111, 99, 107, 101, 114, 47, 102, 111, 111, 116, 108, 111, 99, 107, 101, 114, 108, 97, 119, 49, 55, 46, 83, 104, 101, 108, 102, 83, 112, 114, 101, 97, 100, 115, 32, 102, 111, 111, 116, 108, 111, 99, 107, 101, 114, 47, 102, 111, 111, 116, 108, 111, 99, 107, 101, 114, 108, 97, 119, 49, 55, 46, 83, 104, 101, 108, 102, 78, 111, 110, 101, 32, 102, 111, 111, 116, 108, 111, 99, 107, 101, 114, 47, 102, 111, 111, 116, 108, 111, 99, 107, 101, 114, 116, 111, 112, 46, 70, 111, 111, 116, 108, 111, 99, 107, 101, 114, 83, 97, 102, 101, 32, 102, 111, 111, 116, 108, 111, 99, 107, 101, 114, 47, 102, 111, 111, 116, 108, 111, 99, 107, 101, 114, 108, 97, 119, 49, 55, 46, 83, 104, 101, 108, 102, 65, 112, 97, 114, 116, 32, 102, 111, 111, 116, 108, 111, 99, 107, 101, 114, 47, 102, 111, 111, 116, 108, 111, 99, 107, 101, 114, 108, 97, 119, 49, 56, 46, 87, 111, 114, 107, 101, 114, 80, 108, 97, 121, 115, 32, 102, 111, 111, 116, 108, 111, 99, 107, 101, 114, 47, 102, 111, 111, 116, 108, 111, 99, 107, 101, 114, 108, 97, 119, 49, 56, 46, 87, 111, 114, 107, 101, 114, 83, 116, 101, 112, 115, 32, 102, 111, 111, 116, 108, 111, 99, 107, 101, 114, 47, 102, 111, 111, 116, 108, 111, 99, 107, 101, 114, 108, 97, 119, 49, 56, 46, 87, 111, 114, 107, 101, 114, 67, 104, 101, 99, 107, 115, 32, 102, 111, 111, 116, 108, 111, 99, 107, 101, 114, 47, 102, 111, 111, 116, 108, 111, 99, 107, 101, 114, 108, 97, 119, 49, 56, 46, 87, 111, 114, 107, 101, 114, 78, 111, 110, 101, 32, 102, 111, 111, 116, 108, 111, 99, 107, 101, 114, 47, 102, 111, 111, 116, 108, 111, 99, 107, 101, 114, 108, 97, 119, 49, 56, 46, 87, 111, 114, 107, 101, 114, 76, 97, 116, 101, 114, 32, 102, 111, 111, 116, 108, 111, 99, 107, 101, 114, 47, 102, 111, 111, 116, 108, 111, 99, 107, 101, 114, 108, 97, 119, 50, 49, 46, 87, 111, 114, 108, 100, 84, 101, 108, 108, 115, 32, 102, 111, 111, 116, 108, 111, 99, 107, 101, 114, 47, 102, 111, 111, 116, 108, 111, 99, 107, 101, 114, 108, 97, 119, 50, 49, 46, 87, 111, 114, 108, 100, 80, 105, 99, 107, 115, 32, 102, 111, 111, 116, 108, 111, 99, 107, 101, 114, 47, 102, 111, 111, 116, 108, 111, 99, 107, 101, 114, 108, 97, 119, 50, 49, 46, 87, 111, 114, 108, 100, 87, 105, 108, 100, 32, 102, 111, 111, 116, 108, 111, 99, 107, 101, 114, 47, 102, 111, 111, 116, 108, 111, 99, 107, 101, 114, 108, 97, 119, 50, 49, 46, 87, 111, 114, 108, 100, 82, 111, 117, 110, 100, 115, 32, 102, 111, 111, 116, 108, 111, 99, 107, 101, 114, 47, 102, 111, 111, 116, 108, 111, 99, 107, 101, 114, 108, 97, 119, 50, 49, 46, 87, 111, 114, 108, 100, 83, 97, 109, 101, 32, 102, 111, 111, 116, 108, 111, 99, 107, 101, 114, 47, 102, 111, 111, 116, 108, 111, 99, 107, 101, 114, 108, 97, 119, 50, 49, 46, 87, 111, 114, 108, 100, 83, 101, 101, 115, 32, 102, 111, 111, 116, 108, 111, 99, 107, 101, 114, 47, 102, 111, 111, 116, 108, 111, 99, 107, 101, 114, 108, 97, 119, 50, 49, 46, 87, 111, 114, 108, 100, 78, 111, 110, 101, 32, 102, 111, 111, 116, 108, 111, 99, 107, 101, 114, 47, 102, 111, 111, 116, 108, 111, 99, 107, 101, 114, 116, 111, 112, 46, 70, 111, 111, 116, 108, 111, 99, 107, 101, 114, 81, 117, 105, 101, 116] : List Nat).map Char.ofNat
def ioL : List Char := io1 ++ sp :: (io2 ++ sp :: (io3 ++ sp :: ioR))
theorem io_eq : Tryz.prog.initOrder = String.ofList ioL := by kernel_rfl
theorem io_list : Tryz.prog.initOrder.toList = ioL := by rw [io_eq]; exact String.toList_ofList
theorem words_sp (r : List Char) : wordsSigns (sp :: r) = [] :: wordsSigns r := rfl
theorem words_ne (c : Char) (r : List Char) (h : c ≠ sp) : wordsSigns (c :: r) = match wordsSigns r with | w :: ws => (c :: w) :: ws | [] => [[c]] := by
  rw [wordsSigns]
  · rfl
  · exact h
theorem words_app : ∀ (w r : List Char), (w.all fun c => !(c == sp)) = true → wordsSigns (w ++ sp :: r) = w :: wordsSigns r
  | [], r, _ => words_sp r
  | c :: w, r, h => by
    simp only [List.all_cons, Bool.and_eq_true, Bool.not_eq_true', beq_eq_false_iff_ne, ne_eq] at h
    rw [List.cons_append, words_ne c _ h.1, words_app w r h.2]
theorem io_words : wordsSigns ioL = io1 :: io2 :: io3 :: wordsSigns ioR := by
  unfold ioL
  rw [words_app io1 _ (by kernel_rfl), words_app io2 _ (by kernel_rfl), words_app io3 _ (by kernel_rfl)]
theorem bm (X : List (List Char)) : behindMainWord (io1 :: io2 :: io3 :: X) = io3 :: X := by kernel_rfl
theorem e_gc : (io3 == "gc".toList) = false := by kernel_rfl
theorem e_spec : (io3 == "spec".toList) = false := by kernel_rfl
theorem e_carried : (io3 == "carried".toList) = false := by kernel_rfl
theorem e_cut : (io3 == "cut".toList) = true := by kernel_rfl
theorem e_cut' : (some io3 == some "cut".toList) = true := by kernel_rfl
theorem sl (X : List (List Char)) : stripLifts liftWords (io3 :: X) = ([], io3 :: X) := by kernel_rfl
theorem lays : Tryz.prog.laysLater = false := by kernel_rfl
theorem refl_no : Tryz.prog.bearsReflect = false := by kernel_rfl
theorem door : Tryz.prog.doorFits [] = true := by kernel_rfl
theorem io_all : wordsSigns Tryz.prog.initOrder.toList = io1 :: io2 :: io3 :: wordsSigns ioR := by rw [io_list, io_words]
theorem may_of (P : Program) (X : List (List Char)) (h : wordsSigns P.initOrder.toList = io1 :: io2 :: io3 :: X) (h1 : P.laysLater = false) (h2 : P.bearsReflect = false) (h3 : P.doorFits [] = true) : P.mayEnter = true := by
  unfold Program.mayEnter
  rw [h, bm X]
  simp only [e_gc, e_spec, e_carried, sl X, List.head?_cons, e_cut', h1, h2, h3, Bool.or_self, Bool.false_and, Bool.false_or, Bool.true_and, Bool.not_false, Bool.or_true, Bool.and_true, Bool.and_self]
  decide
theorem heads_of (P : Program) (X : List (List Char)) (h : wordsSigns P.initOrder.toList = io1 :: io2 :: io3 :: X) : P.headLifts = [] := by
  unfold Program.headLifts
  rw [h, bm X]
  simp only [sl X, List.head?_cons, e_cut', if_true]
theorem final_of (P : Program) (X : List (List Char)) (h : wordsSigns P.initOrder.toList = io1 :: io2 :: io3 :: X) : P.liftsFinal = false := by
  unfold Program.liftsFinal
  rw [h, bm X, heads_of P X h]
  have e : (some io3 == some "carried".toList) = false := by kernel_rfl
  simp only [List.head?_cons, e, Bool.false_and, Bool.false_or]
  rfl
theorem make_of (P : Program) (X : List (List Char)) (h : wordsSigns P.initOrder.toList = io1 :: io2 :: io3 :: X) : P.make = some .cut := by
  unfold Program.make
  rw [h, bm X]
  simp only [e_gc, e_spec, e_cut, Bool.or_self, Bool.false_eq_true, if_false, Bool.true_or, if_true]
theorem may_enter : Tryz.prog.mayEnter = true := may_of _ _ io_all lays refl_no door
theorem lifts_final : Tryz.prog.liftsFinal = false := final_of _ _ io_all
theorem make_cut : Tryz.prog.make = some .cut := make_of _ _ io_all
theorem joined_of {P : Program} {f : FuncId} {fn : Func} {s : ChangeSpec} {c : OpenClaim} (k0 : (c.wf (OpenSpec.ofChange s)) = true) (k1 : (laidOutB P) = true) (k2 : (mapsRowed P) = true) (k3 : (fn.params.all (P.readableRec ·)) = true) (k4 : (namedTie P c.named s.vars) = true) (k5 : (c.stops == []) = true) (k6 : (P.stops == []) = true) (k7 : (c.knobs == []) = true) (k8 : (P.stopKnobs == []) = true) (k9 : (c.inPlace == P.inPlace f) = true) (k10 : (c.unfollowed == P.unfollowed f) = true) (k11 : (c.recurses == P.recurses f) = true) (k12 : (c.named == P.varsNamed f) = true) (k13 : (c.maps == (fn.params.toList ++ s.plain.varTypes P).any (P.mapsRec ·)) = true) (k14 : (c.ifaces == (fn.params.toList ++ s.plain.varTypes P).any (P.ifacesRec ·)) = true) (k15 : (c.mapsOut == P.mapsAmong fn.resultTypes.toList) = true) (k16 : (c.loops == (fn.params.toList ++ s.plain.varTypes P).any (P.loopsFrom ·)) = true) (k17 : (c.wideKeys == (fn.params.toList ++ s.plain.varTypes P ++ fn.resultTypes.toList).any (P.wideKeysFrom ·)) = true) (k18 : (s.vars.all (P.varReadable ·)) = true) (k19 : (fn.resultTypes.all (fun t => P.readableRec t && decide (t < P.types.size))) = true) (k20 : (c.ifacesOut == fn.resultTypes.toList.any (P.ifacesRec ·)) = true) (k21 : (c.loopsOut == fn.resultTypes.toList.any (P.loopsFrom ·)) = true) (k22 : (c.plainKeys == P.plainKeys) = true) (k23 : (c.shortTexts.isNone) = true) (k24 : (P.stopsHeard) = true) (k25 : (P.mayEnter) = true) (k26 : (c.lifted == P.liftsFinal) = true) (k27 : (P.make == some c.make) = true) (k28 : (c.kinds == (if c.domain.isEmpty then [] else fn.params.toList.map fun t => match P.underlying t with | some (.int k) => some k | _ => none)) = true) (k29 : (c.pinned == c.pinnedBy) = true) (k30 : (c.veiled == (fn.params.toList ++ s.plain.varTypes P ++ fn.resultTypes.toList).any (P.veiledRec ·)) = true) (k31 : (c.veiledFits P fn.params.toList (fn.params.toList ++ s.plain.varTypes P ++ fn.resultTypes.toList)) = true) : joinedFacts P f fn s c = true := by
  unfold joinedFacts
  simp only [Bool.and_eq_true]
  exact ⟨⟨⟨⟨⟨⟨⟨⟨⟨⟨⟨⟨⟨⟨⟨⟨⟨⟨⟨⟨⟨⟨⟨⟨⟨⟨⟨⟨⟨⟨⟨k0, k1⟩, k2⟩, k3⟩, k4⟩, k5⟩, k6⟩, k7⟩, k8⟩, k9⟩, k10⟩, k11⟩, k12⟩, k13⟩, k14⟩, k15⟩, k16⟩, k17⟩, k18⟩, k19⟩, k20⟩, k21⟩, k22⟩, k23⟩, k24⟩, k25⟩, k26⟩, k27⟩, k28⟩, k29⟩, k30⟩, k31⟩
theorem laid_out : laidOutB Tryz.checked.prog = true := by kernel_rfl
theorem maps_rowed : mapsRowed Tryz.checked.prog = true := by kernel_rfl
theorem stops_no : (Tryz.checked.prog.stops == []) = true := by kernel_rfl
theorem knobs_no : (Tryz.checked.prog.stopKnobs == []) = true := by kernel_rfl
theorem stops_heard : Tryz.checked.prog.stopsHeard = true := by kernel_rfl
theorem may_enter' : Tryz.checked.prog.mayEnter = true := may_enter
theorem own_knob : ownKnob Tryz.prog.godebug = none := by kernel_rfl
theorem lifted_ok {c : OpenClaim} (h : c.lifted = false) : (c.lifted == Tryz.checked.prog.liftsFinal) = true := by
  rw [h, show Tryz.checked.prog.liftsFinal = false from lifts_final]; rfl
theorem make_ok {c : OpenClaim} (h : c.make = .cut) : (Tryz.checked.prog.make == some c.make) = true := by
  rw [h, show Tryz.checked.prog.make = some .cut from make_cut]; kernel_rfl
end Go.Proofs.YtdkjpjiljplahaaGreat
