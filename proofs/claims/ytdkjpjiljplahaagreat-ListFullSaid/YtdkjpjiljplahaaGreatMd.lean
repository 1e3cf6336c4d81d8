/- Templates, level 2, shown. -/
import Derived.Test.YtdkjpjiljplahaaGreatMc
namespace Go.Fl
open Go Go.Sx Go.Proofs
variable [ExtF]
set_option linter.unusedSimpArgs false
set_option maxRecDepth 100000

abbrev z20 : E := .o2 .lss (.var 3) (.int 0)
abbrev z21 : E := .o2 (.arith .add .i64) (.var 12) (.int 1)
abbrev z22 : E := .o2 .inI (.var 10) (.var 3)
abbrev z23 : E := .o2 .lss (.var 3) (.var 17)
abbrev z24 : E := .o2 .lss (.var 3) (.o1 .nat (.var 17))
abbrev z2p5 : Path := (z24, true) :: [(z20, false)]
abbrev z2p6 : Path := (z23, true) :: z2p5
theorem mLoad_ok : mLoad.t.ok SG prog 189 := by
  refine MSpec.ok tm1_ok mLoad rfl (by kernel_rfl) (
  allS_cons ⟨[⟨true, .one (.c (.int .u64 (.int 0))), [(5, .row (.int .i64) (.var 11)), (4, .row (.int .u64) (.var 10)), (1, .cells (ch (cell1 memS 10 2) [(3, xi 2)]))], 21, [(z20, true)]⟩,
    ⟨true, .one (.c (.int .u64 (.o2 .nthI (.var 10) (.var 3)))), [(5, .row (.int .i64) (.var 11)), (4, .row (.int .u64) (.var 10)), (1, .cells (ch (cell1 memS 10 2) [(2, .int .i64 z21), (3, xi 2), (4, xi 3), (5, xi 2), (6, .bool (.bool false))]))], 21, (z22, true) :: z2p6⟩,
    ⟨false, .tup [], [], 0, (z22, false) :: z2p6⟩,
    ⟨false, .tup [], [], 0, (z23, false) :: z2p5⟩,
    ⟨true, .one (.c (.int .u64 (.int 0))), [(5, .row (.int .i64) (.var 11)), (4, .row (.int .u64) (.var 10)), (1, .cells (ch (cell1 memS 10 2) [(3, xi 2)]))], 21, [(z24, false), (z20, false)]⟩], by as_aux_lemma => kernel_rfl,
    allC_cons (way0 memS (by simp [kinds]) (fun j => match j with | 3 => (.var 2) | j => .var (j + 10)) (fun j => match j with | 2 => 4 | 3 => 5 | 1 => 1 | _ => 0) (by kernel_rfl) rfl rfl ?_) <|
    allC_cons (way0 memS (by simp [kinds]) (fun j => match j with | 2 => z21 | 3 => (.var 2) | 4 => (.var 3) | 5 => (.var 2) | 6 => (.bool false) | j => .var (j + 10)) (fun j => match j with | 2 => 4 | 3 => 5 | 1 => 1 | _ => 0) (by kernel_rfl) rfl rfl ?_) <|
    allC_cons (wayNo ?_) <|
    allC_cons (wayNo ?_) <|
    allC_cons (way0 memS (by simp [kinds]) (fun j => match j with | 3 => (.var 2) | j => .var (j + 10)) (fun j => match j with | 2 => 4 | 3 => 5 | 1 => 1 | _ => 0) (by kernel_rfl) rfl rfl ?_) <|
    allC_nil _⟩ <|
  allS_nil _)
  all_goals as_aux_lemma =>
    intro n hp hg hi
    simp only [pt_nil, pt_cons, E.den, sg_f1, sg_f2, sg_f3, sg_f4, f1_0, f1_1, f1_2, f1_3, f1_4, f1_5, f1_6, f2_20, f3_3, O1.ap, O3.ap, ap_arith, ap_bits, ap_div, ap_shift, ap_eql, ap_lss, ap_beq, ap_min, ap_max, ap_nthI, ap_nthB, ap_inI, ap_inB, G.toInt_int, G.toBool_bool, G.toInts_ints, ltI_t, ltI_f, inN_t, inN_f, and_true, Nat.zero_add, Nat.reduceAdd, arith_add, arith_sub, arith_mul, i64, u64, cas_by, openAt, pinAt] at hp
    simp only [mLoad, memSp, memS, sg_f1, sg_f2, sg_f3, sg_f4, f1_0, f1_1, f1_2, f1_3, f1_4, f1_5, f1_6, f2_20, f3_3, O1.ap, O3.ap, ap_arith, ap_bits, ap_div, ap_shift, ap_eql, ap_lss, ap_beq, ap_min, ap_max, ap_nthI, ap_nthB, ap_inI, ap_inB, G.toInt_int, G.toBool_bool, G.toInts_ints, ltI_t, ltI_f, inN_t, inN_f, and_true, Nat.zero_add, Nat.reduceAdd, arith_add, arith_sub, arith_mul, i64, u64, cas_by, openAt, pinAt] at hg hi
    obtain ⟨i1, i2, i3⟩ := hi
    (try simp only [i1, i2] at hp)
    first
    | (exfalso; omega)
    | ((first | (have hk := inW_t (w := G.toInts (n.v 10)) (a := G.toInt (n.v 3)) (by omega) (by omega)) | (have hk := inW_f (w := G.toInts (n.v 10)) (a := G.toInt (n.v 3)) (by omega)) | (have hk := trivial))
       refine ⟨?_, ?_, ?_⟩
       · simp only [mLoad, memSp, xi, xu, xb, SV.den, S2.den, S1.den, cellsDen, List.map, iE, uE, bE, E.den, sg_f1, sg_f2, sg_f3, sg_f4, f1_0, f1_1, f1_2, f1_3, f1_4, f1_5, f1_6, f2_20, f3_3, O1.ap, O3.ap, ap_arith, ap_bits, ap_div, ap_shift, ap_eql, ap_lss, ap_beq, ap_min, ap_max, ap_nthI, ap_nthB, ap_inI, ap_inB, G.toInt_int, G.toBool_bool, G.toInts_ints, ltI_t, ltI_f, inN_t, inN_f, and_true, Nat.zero_add, Nat.reduceAdd, arith_add, arith_sub, arith_mul, i64, u64, cas_by, openAt, pinAt, hg, gmem_u, Mem.by', Mem.step, Mem.at', Mem.set, Mem.load, Mem.val, Mem.store, Mem.casOk, Mem.cas, Mem.add, Mem.whenAt, okA_inW, hk, i64, u64, List.length_set] <;> first | rfl | (simp only [hp, reduceIte, Bool.false_eq_true, Bool.true_and, if_true, if_false, Bool.not_true, Bool.not_false, Bool.and_true, Bool.and_false, Bool.false_and]; done) | (simp_all; done)
       · simp only [memS, xi, xu, xb, SV.den, S2.den, S1.den, cellsDen, List.map, iE, uE, bE, E.den, sg_f1, sg_f2, sg_f3, sg_f4, f1_0, f1_1, f1_2, f1_3, f1_4, f1_5, f1_6, f2_20, f3_3, O1.ap, O3.ap, ap_arith, ap_bits, ap_div, ap_shift, ap_eql, ap_lss, ap_beq, ap_min, ap_max, ap_nthI, ap_nthB, ap_inI, ap_inB, G.toInt_int, G.toBool_bool, G.toInts_ints, ltI_t, ltI_f, inN_t, inN_f, and_true, Nat.zero_add, Nat.reduceAdd, arith_add, arith_sub, arith_mul, i64, u64, cas_by, openAt, pinAt, hg, gmem_u, List.length_set] <;> first | exact ⟨i1, i2, i3⟩ | (simp_all; done)
       · simp only [mLoad, memSp, memS, xi, xu, xb, SV.den, S2.den, S1.den, cellsDen, List.map, iE, uE, bE, E.den, sg_f1, sg_f2, sg_f3, sg_f4, f1_0, f1_1, f1_2, f1_3, f1_4, f1_5, f1_6, f2_20, f3_3, O1.ap, O3.ap, ap_arith, ap_bits, ap_div, ap_shift, ap_eql, ap_lss, ap_beq, ap_min, ap_max, ap_nthI, ap_nthB, ap_inI, ap_inB, G.toInt_int, G.toBool_bool, G.toInts_ints, ltI_t, ltI_f, inN_t, inN_f, and_true, Nat.zero_add, Nat.reduceAdd, arith_add, arith_sub, arith_mul, i64, u64, cas_by, openAt, pinAt, hg, gmem_u, Mem.by', Mem.step, Mem.at', Mem.set, Mem.load, Mem.val, Mem.store, Mem.casOk, Mem.cas, Mem.add, Mem.whenAt, okA_inW, hk, i64, u64, List.length_set] <;> first | rfl | (simp only [hp, reduceIte, Bool.false_eq_true, Bool.true_and, if_true, if_false, Bool.not_true, Bool.not_false, Bool.and_true, Bool.and_false, Bool.false_and]; done) | (simp_all; done))

abbrev z27 : E := .o2 .lss (.var 3) (.int 0)
abbrev z28 : E := .o3 .setI (.var 10) (.var 3) (.var 4)
abbrev z29 : E := .o2 (.arith .add .i64) (.var 12) (.int 1)
abbrev z210 : E := .o2 .eql (.o2 .nthI (.var 10) (.var 3)) (.var 4)
abbrev z211 : E := .o1 .not z210
abbrev z212 : E := .o2 .inI (.var 10) (.var 3)
abbrev z213 : E := .o2 .lss (.var 3) (.var 17)
abbrev z214 : E := .o2 .lss (.var 3) (.o1 .nat (.var 17))
abbrev z215 : E := .o3 .setI (.var 11) (.var 3) z29
abbrev z216 : E := .o2 .inI (.var 11) (.var 3)
abbrev z217 : E := .o2 .lss (.var 3) (.var 18)
abbrev z2p18 : Path := (z214, true) :: [(z27, false)]
abbrev z2p19 : Path := (z213, true) :: z2p18
abbrev z2p20 : Path := (z212, true) :: z2p19
abbrev z2p21 : Path := (z210, false) :: z2p20
abbrev z2p22 : Path := (z217, true) :: z2p21
theorem mStore_ok : mStore.t.ok SG prog 191 := by
  refine MSpec.ok tm1_ok mStore rfl (by kernel_rfl) (
  allS_cons ⟨[⟨true, .tup [], [(5, .row (.int .i64) (.var 11)), (4, .row (.int .u64) (.var 10)), (1, .cells (ch (cell1 memS 10 2) [(3, xi 2)]))], 21, [(z27, true)]⟩,
    ⟨true, .tup [], [(5, .row (.int .i64) (.var 11)), (4, .row (.int .u64) z28), (1, .cells (ch (cell1 memS 10 2) [(2, .int .i64 z29), (3, xi 2), (4, xi 3), (5, xi 2), (6, .bool z211)]))], 21, (z210, true) :: z2p20⟩,
    ⟨true, .tup [], [(5, .row (.int .i64) z215), (4, .row (.int .u64) z28), (1, .cells (ch (cell1 memS 10 2) [(2, .int .i64 z29), (3, xi 2), (4, xi 3), (5, xi 2), (6, .bool z211)]))], 32, (z216, true) :: z2p22⟩,
    ⟨false, .tup [], [], 0, (z216, false) :: z2p22⟩,
    ⟨false, .tup [], [], 0, (z217, false) :: z2p21⟩,
    ⟨false, .tup [], [], 0, (z212, false) :: z2p19⟩,
    ⟨false, .tup [], [], 0, (z213, false) :: z2p18⟩,
    ⟨true, .tup [], [(5, .row (.int .i64) (.var 11)), (4, .row (.int .u64) (.var 10)), (1, .cells (ch (cell1 memS 10 2) [(3, xi 2)]))], 21, [(z214, false), (z27, false)]⟩], by as_aux_lemma => kernel_rfl,
    allC_cons (way0 memS (by simp [kinds]) (fun j => match j with | 3 => (.var 2) | j => .var (j + 10)) (fun j => match j with | 2 => 4 | 3 => 5 | 1 => 1 | _ => 0) (by kernel_rfl) rfl rfl ?_) <|
    allC_cons (way0 memS (by simp [kinds]) (fun j => match j with | 0 => z28 | 2 => z29 | 3 => (.var 2) | 4 => (.var 3) | 5 => (.var 2) | 6 => z211 | j => .var (j + 10)) (fun j => match j with | 2 => 4 | 3 => 5 | 1 => 1 | _ => 0) (by kernel_rfl) rfl rfl ?_) <|
    allC_cons (way0 memS (by simp [kinds]) (fun j => match j with | 0 => z28 | 1 => z215 | 2 => z29 | 3 => (.var 2) | 4 => (.var 3) | 5 => (.var 2) | 6 => z211 | j => .var (j + 10)) (fun j => match j with | 2 => 4 | 3 => 5 | 1 => 1 | _ => 0) (by kernel_rfl) rfl rfl ?_) <|
    allC_cons (wayNo ?_) <|
    allC_cons (wayNo ?_) <|
    allC_cons (wayNo ?_) <|
    allC_cons (wayNo ?_) <|
    allC_cons (way0 memS (by simp [kinds]) (fun j => match j with | 3 => (.var 2) | j => .var (j + 10)) (fun j => match j with | 2 => 4 | 3 => 5 | 1 => 1 | _ => 0) (by kernel_rfl) rfl rfl ?_) <|
    allC_nil _⟩ <|
  allS_nil _)
  all_goals as_aux_lemma =>
    intro n hp hg hi
    simp only [pt_nil, pt_cons, E.den, sg_f1, sg_f2, sg_f3, sg_f4, f1_0, f1_1, f1_2, f1_3, f1_4, f1_5, f1_6, f4_10, O1.ap, O3.ap, ap_arith, ap_bits, ap_div, ap_shift, ap_eql, ap_lss, ap_beq, ap_min, ap_max, ap_nthI, ap_nthB, ap_inI, ap_inB, G.toInt_int, G.toBool_bool, G.toInts_ints, ltI_t, ltI_f, inN_t, inN_f, and_true, Nat.zero_add, Nat.reduceAdd, arith_add, arith_sub, arith_mul, i64, u64, cas_by, openAt, pinAt] at hp
    simp only [mStore, memSp, memS, sg_f1, sg_f2, sg_f3, sg_f4, f1_0, f1_1, f1_2, f1_3, f1_4, f1_5, f1_6, f4_10, O1.ap, O3.ap, ap_arith, ap_bits, ap_div, ap_shift, ap_eql, ap_lss, ap_beq, ap_min, ap_max, ap_nthI, ap_nthB, ap_inI, ap_inB, G.toInt_int, G.toBool_bool, G.toInts_ints, ltI_t, ltI_f, inN_t, inN_f, and_true, Nat.zero_add, Nat.reduceAdd, arith_add, arith_sub, arith_mul, i64, u64, cas_by, openAt, pinAt] at hg hi
    obtain ⟨i1, i2, i3⟩ := hi
    (try simp only [i1, i2] at hp)
    first
    | (exfalso; omega)
    | ((first | (have hk := inW_t (w := G.toInts (n.v 10)) (a := G.toInt (n.v 3)) (by omega) (by omega)) | (have hk := inW_f (w := G.toInts (n.v 10)) (a := G.toInt (n.v 3)) (by omega)) | (have hk := trivial))
       refine ⟨?_, ?_, ?_⟩
       · simp only [mStore, memSp, xi, xu, xb, SV.den, S2.den, S1.den, cellsDen, List.map, iE, uE, bE, E.den, sg_f1, sg_f2, sg_f3, sg_f4, f1_0, f1_1, f1_2, f1_3, f1_4, f1_5, f1_6, f4_10, O1.ap, O3.ap, ap_arith, ap_bits, ap_div, ap_shift, ap_eql, ap_lss, ap_beq, ap_min, ap_max, ap_nthI, ap_nthB, ap_inI, ap_inB, G.toInt_int, G.toBool_bool, G.toInts_ints, ltI_t, ltI_f, inN_t, inN_f, and_true, Nat.zero_add, Nat.reduceAdd, arith_add, arith_sub, arith_mul, i64, u64, cas_by, openAt, pinAt, hg, gmem_u, Mem.by', Mem.step, Mem.at', Mem.set, Mem.load, Mem.val, Mem.store, Mem.casOk, Mem.cas, Mem.add, Mem.whenAt, okA_inW, hk, i64, u64, List.length_set] <;> first | rfl | (simp only [hp, reduceIte, Bool.false_eq_true, Bool.true_and, if_true, if_false, Bool.not_true, Bool.not_false, Bool.and_true, Bool.and_false, Bool.false_and]; done) | (simp_all; done)
       · simp only [memS, xi, xu, xb, SV.den, S2.den, S1.den, cellsDen, List.map, iE, uE, bE, E.den, sg_f1, sg_f2, sg_f3, sg_f4, f1_0, f1_1, f1_2, f1_3, f1_4, f1_5, f1_6, f4_10, O1.ap, O3.ap, ap_arith, ap_bits, ap_div, ap_shift, ap_eql, ap_lss, ap_beq, ap_min, ap_max, ap_nthI, ap_nthB, ap_inI, ap_inB, G.toInt_int, G.toBool_bool, G.toInts_ints, ltI_t, ltI_f, inN_t, inN_f, and_true, Nat.zero_add, Nat.reduceAdd, arith_add, arith_sub, arith_mul, i64, u64, cas_by, openAt, pinAt, hg, gmem_u, List.length_set] <;> first | exact ⟨i1, i2, i3⟩ | (simp_all; done)
       · simp only [mStore, memSp, memS, xi, xu, xb, SV.den, S2.den, S1.den, cellsDen, List.map, iE, uE, bE, E.den, sg_f1, sg_f2, sg_f3, sg_f4, f1_0, f1_1, f1_2, f1_3, f1_4, f1_5, f1_6, f4_10, O1.ap, O3.ap, ap_arith, ap_bits, ap_div, ap_shift, ap_eql, ap_lss, ap_beq, ap_min, ap_max, ap_nthI, ap_nthB, ap_inI, ap_inB, G.toInt_int, G.toBool_bool, G.toInts_ints, ltI_t, ltI_f, inN_t, inN_f, and_true, Nat.zero_add, Nat.reduceAdd, arith_add, arith_sub, arith_mul, i64, u64, cas_by, openAt, pinAt, hg, gmem_u, Mem.by', Mem.step, Mem.at', Mem.set, Mem.load, Mem.val, Mem.store, Mem.casOk, Mem.cas, Mem.add, Mem.whenAt, okA_inW, hk, i64, u64, List.length_set] <;> first | rfl | (simp only [hp, reduceIte, Bool.false_eq_true, Bool.true_and, if_true, if_false, Bool.not_true, Bool.not_false, Bool.and_true, Bool.and_false, Bool.false_and]; done) | (simp_all; done))

abbrev z223 : E := .o2 .lss (.var 3) (.int 0)
abbrev z224 : E := .o3 .setI (.var 10) (.var 3) (.var 5)
abbrev z225 : E := .o2 (.arith .add .i64) (.var 12) (.int 1)
abbrev z226 : E := .o2 .nthI (.var 10) (.var 3)
abbrev z227 : E := .o2 .eql z226 (.var 5)
abbrev z228 : E := .o1 .not z227
abbrev z229 : E := .o2 .eql z226 (.var 4)
abbrev z230 : E := .o2 .inI (.var 10) (.var 3)
abbrev z231 : E := .o2 .lss (.var 3) (.var 17)
abbrev z232 : E := .o2 .lss (.var 3) (.o1 .nat (.var 17))
abbrev z233 : E := .o3 .setI (.var 11) (.var 3) z225
abbrev z234 : E := .o2 .inI (.var 11) (.var 3)
abbrev z235 : E := .o2 .lss (.var 3) (.var 18)
abbrev z2p36 : Path := (z232, true) :: [(z223, false)]
abbrev z2p37 : Path := (z231, true) :: z2p36
abbrev z2p38 : Path := (z230, true) :: z2p37
abbrev z2p39 : Path := (z229, true) :: z2p38
abbrev z2p40 : Path := (z227, false) :: z2p39
abbrev z2p41 : Path := (z235, true) :: z2p40
theorem mCas_ok : mCas.t.ok SG prog 184 := by
  refine MSpec.ok tm1_ok mCas rfl (by kernel_rfl) (
  allS_cons ⟨[⟨true, .one (.c (.bool (.bool false))), [(5, .row (.int .i64) (.var 11)), (4, .row (.int .u64) (.var 10)), (1, .cells (ch (cell1 memS 10 2) [(3, xi 2)]))], 21, [(z223, true)]⟩,
    ⟨true, .one (.c (.bool (.bool true))), [(5, .row (.int .i64) (.var 11)), (4, .row (.int .u64) z224), (1, .cells (ch (cell1 memS 10 2) [(2, .int .i64 z225), (3, xi 2), (4, xi 3), (5, xi 2), (6, .bool z228)]))], 21, (z227, true) :: z2p39⟩,
    ⟨true, .one (.c (.bool (.bool true))), [(5, .row (.int .i64) z233), (4, .row (.int .u64) z224), (1, .cells (ch (cell1 memS 10 2) [(2, .int .i64 z225), (3, xi 2), (4, xi 3), (5, xi 2), (6, .bool z228)]))], 32, (z234, true) :: z2p41⟩,
    ⟨false, .tup [], [], 0, (z234, false) :: z2p41⟩,
    ⟨false, .tup [], [], 0, (z235, false) :: z2p40⟩,
    ⟨true, .one (.c (.bool (.bool false))), [(5, .row (.int .i64) (.var 11)), (4, .row (.int .u64) (.var 10)), (1, .cells (ch (cell1 memS 10 2) [(2, .int .i64 z225), (3, xi 2), (4, xi 3), (5, xi 2), (6, .bool (.bool false))]))], 21, (z229, false) :: z2p38⟩,
    ⟨false, .tup [], [], 0, (z230, false) :: z2p37⟩,
    ⟨false, .tup [], [], 0, (z231, false) :: z2p36⟩,
    ⟨true, .one (.c (.bool (.bool false))), [(5, .row (.int .i64) (.var 11)), (4, .row (.int .u64) (.var 10)), (1, .cells (ch (cell1 memS 10 2) [(3, xi 2)]))], 21, [(z232, false), (z223, false)]⟩], by as_aux_lemma => kernel_rfl,
    allC_cons (way0 memS (by simp [kinds]) (fun j => match j with | 3 => (.var 2) | j => .var (j + 10)) (fun j => match j with | 2 => 4 | 3 => 5 | 1 => 1 | _ => 0) (by kernel_rfl) rfl rfl ?_) <|
    allC_cons (way0 memS (by simp [kinds]) (fun j => match j with | 0 => z224 | 2 => z225 | 3 => (.var 2) | 4 => (.var 3) | 5 => (.var 2) | 6 => z228 | j => .var (j + 10)) (fun j => match j with | 2 => 4 | 3 => 5 | 1 => 1 | _ => 0) (by kernel_rfl) rfl rfl ?_) <|
    allC_cons (way0 memS (by simp [kinds]) (fun j => match j with | 0 => z224 | 1 => z233 | 2 => z225 | 3 => (.var 2) | 4 => (.var 3) | 5 => (.var 2) | 6 => z228 | j => .var (j + 10)) (fun j => match j with | 2 => 4 | 3 => 5 | 1 => 1 | _ => 0) (by kernel_rfl) rfl rfl ?_) <|
    allC_cons (wayNo ?_) <|
    allC_cons (wayNo ?_) <|
    allC_cons (way0 memS (by simp [kinds]) (fun j => match j with | 2 => z225 | 3 => (.var 2) | 4 => (.var 3) | 5 => (.var 2) | 6 => (.bool false) | j => .var (j + 10)) (fun j => match j with | 2 => 4 | 3 => 5 | 1 => 1 | _ => 0) (by kernel_rfl) rfl rfl ?_) <|
    allC_cons (wayNo ?_) <|
    allC_cons (wayNo ?_) <|
    allC_cons (way0 memS (by simp [kinds]) (fun j => match j with | 3 => (.var 2) | j => .var (j + 10)) (fun j => match j with | 2 => 4 | 3 => 5 | 1 => 1 | _ => 0) (by kernel_rfl) rfl rfl ?_) <|
    allC_nil _⟩ <|
  allS_nil _)
  all_goals as_aux_lemma =>
    intro n hp hg hi
    simp only [pt_nil, pt_cons, E.den, sg_f1, sg_f2, sg_f3, sg_f4, f1_0, f1_1, f1_2, f1_3, f1_4, f1_5, f1_6, f2_22, f3_2, f4_12, O1.ap, O3.ap, ap_arith, ap_bits, ap_div, ap_shift, ap_eql, ap_lss, ap_beq, ap_min, ap_max, ap_nthI, ap_nthB, ap_inI, ap_inB, G.toInt_int, G.toBool_bool, G.toInts_ints, ltI_t, ltI_f, inN_t, inN_f, and_true, Nat.zero_add, Nat.reduceAdd, arith_add, arith_sub, arith_mul, i64, u64, cas_by, openAt, pinAt] at hp
    simp only [mCas, memSp, memS, sg_f1, sg_f2, sg_f3, sg_f4, f1_0, f1_1, f1_2, f1_3, f1_4, f1_5, f1_6, f2_22, f3_2, f4_12, O1.ap, O3.ap, ap_arith, ap_bits, ap_div, ap_shift, ap_eql, ap_lss, ap_beq, ap_min, ap_max, ap_nthI, ap_nthB, ap_inI, ap_inB, G.toInt_int, G.toBool_bool, G.toInts_ints, ltI_t, ltI_f, inN_t, inN_f, and_true, Nat.zero_add, Nat.reduceAdd, arith_add, arith_sub, arith_mul, i64, u64, cas_by, openAt, pinAt] at hg hi
    obtain ⟨i1, i2, i3⟩ := hi
    (try simp only [i1, i2] at hp)
    first
    | (exfalso; omega)
    | ((first | (have hk := inW_t (w := G.toInts (n.v 10)) (a := G.toInt (n.v 3)) (by omega) (by omega)) | (have hk := inW_f (w := G.toInts (n.v 10)) (a := G.toInt (n.v 3)) (by omega)) | (have hk := trivial))
       refine ⟨?_, ?_, ?_⟩
       · simp only [mCas, memSp, xi, xu, xb, SV.den, S2.den, S1.den, cellsDen, List.map, iE, uE, bE, E.den, sg_f1, sg_f2, sg_f3, sg_f4, f1_0, f1_1, f1_2, f1_3, f1_4, f1_5, f1_6, f2_22, f3_2, f4_12, O1.ap, O3.ap, ap_arith, ap_bits, ap_div, ap_shift, ap_eql, ap_lss, ap_beq, ap_min, ap_max, ap_nthI, ap_nthB, ap_inI, ap_inB, G.toInt_int, G.toBool_bool, G.toInts_ints, ltI_t, ltI_f, inN_t, inN_f, and_true, Nat.zero_add, Nat.reduceAdd, arith_add, arith_sub, arith_mul, i64, u64, cas_by, openAt, pinAt, hg, gmem_u, Mem.by', Mem.step, Mem.at', Mem.set, Mem.load, Mem.val, Mem.store, Mem.casOk, Mem.cas, Mem.add, Mem.whenAt, okA_inW, hk, i64, u64, List.length_set] <;> first | rfl | (simp only [hp, reduceIte, Bool.false_eq_true, Bool.true_and, if_true, if_false, Bool.not_true, Bool.not_false, Bool.and_true, Bool.and_false, Bool.false_and]; done) | (simp_all; done)
       · simp only [memS, xi, xu, xb, SV.den, S2.den, S1.den, cellsDen, List.map, iE, uE, bE, E.den, sg_f1, sg_f2, sg_f3, sg_f4, f1_0, f1_1, f1_2, f1_3, f1_4, f1_5, f1_6, f2_22, f3_2, f4_12, O1.ap, O3.ap, ap_arith, ap_bits, ap_div, ap_shift, ap_eql, ap_lss, ap_beq, ap_min, ap_max, ap_nthI, ap_nthB, ap_inI, ap_inB, G.toInt_int, G.toBool_bool, G.toInts_ints, ltI_t, ltI_f, inN_t, inN_f, and_true, Nat.zero_add, Nat.reduceAdd, arith_add, arith_sub, arith_mul, i64, u64, cas_by, openAt, pinAt, hg, gmem_u, List.length_set] <;> first | exact ⟨i1, i2, i3⟩ | (simp_all; done)
       · simp only [mCas, memSp, memS, xi, xu, xb, SV.den, S2.den, S1.den, cellsDen, List.map, iE, uE, bE, E.den, sg_f1, sg_f2, sg_f3, sg_f4, f1_0, f1_1, f1_2, f1_3, f1_4, f1_5, f1_6, f2_22, f3_2, f4_12, O1.ap, O3.ap, ap_arith, ap_bits, ap_div, ap_shift, ap_eql, ap_lss, ap_beq, ap_min, ap_max, ap_nthI, ap_nthB, ap_inI, ap_inB, G.toInt_int, G.toBool_bool, G.toInts_ints, ltI_t, ltI_f, inN_t, inN_f, and_true, Nat.zero_add, Nat.reduceAdd, arith_add, arith_sub, arith_mul, i64, u64, cas_by, openAt, pinAt, hg, gmem_u, Mem.by', Mem.step, Mem.at', Mem.set, Mem.load, Mem.val, Mem.store, Mem.casOk, Mem.cas, Mem.add, Mem.whenAt, okA_inW, hk, i64, u64, List.length_set] <;> first | rfl | (simp only [hp, reduceIte, Bool.false_eq_true, Bool.true_and, if_true, if_false, Bool.not_true, Bool.not_false, Bool.and_true, Bool.and_false, Bool.false_and]; done) | (simp_all; done))

abbrev z242 : E := .o2 .lss (.var 3) (.int 0)
abbrev z243 : E := .o2 .nthI (.var 10) (.var 3)
abbrev z244 : E := .o2 (.arith .add .u64) z243 (.o1 (.conv .u64) (.var 4))
abbrev z245 : E := .o3 .setI (.var 10) (.var 3) z244
abbrev z246 : E := .o2 (.arith .add .i64) (.var 12) (.int 1)
abbrev z247 : E := .o2 .eql z243 z244
abbrev z248 : E := .o1 .not z247
abbrev z249 : E := .o2 .inI (.var 10) (.var 3)
abbrev z250 : E := .o2 .lss (.var 3) (.var 17)
abbrev z251 : E := .o2 .lss (.var 3) (.o1 .nat (.var 17))
abbrev z252 : E := .o3 .setI (.var 11) (.var 3) z246
abbrev z253 : E := .o2 .inI (.var 11) (.var 3)
abbrev z254 : E := .o2 .lss (.var 3) (.var 18)
abbrev z2p55 : Path := (z251, true) :: [(z242, false)]
abbrev z2p56 : Path := (z250, true) :: z2p55
abbrev z2p57 : Path := (z249, true) :: z2p56
abbrev z2p58 : Path := (z247, false) :: z2p57
abbrev z2p59 : Path := (z254, true) :: z2p58
theorem mAdd_ok : mAdd.t.ok SG prog 268 := by
  refine MSpec.ok tm1_ok mAdd rfl (by kernel_rfl) (
  allS_cons ⟨[⟨true, .tup [], [(5, .row (.int .i64) (.var 11)), (4, .row (.int .u64) (.var 10)), (1, .cells (ch (cell1 memS 10 2) [(3, xi 2)]))], 21, [(z242, true)]⟩,
    ⟨true, .tup [], [(5, .row (.int .i64) (.var 11)), (4, .row (.int .u64) z245), (1, .cells (ch (cell1 memS 10 2) [(2, .int .i64 z246), (3, xi 2), (4, xi 3), (5, xi 2), (6, .bool z248)]))], 21, (z247, true) :: z2p57⟩,
    ⟨true, .tup [], [(5, .row (.int .i64) z252), (4, .row (.int .u64) z245), (1, .cells (ch (cell1 memS 10 2) [(2, .int .i64 z246), (3, xi 2), (4, xi 3), (5, xi 2), (6, .bool z248)]))], 32, (z253, true) :: z2p59⟩,
    ⟨false, .tup [], [], 0, (z253, false) :: z2p59⟩,
    ⟨false, .tup [], [], 0, (z254, false) :: z2p58⟩,
    ⟨false, .tup [], [], 0, (z249, false) :: z2p56⟩,
    ⟨false, .tup [], [], 0, (z250, false) :: z2p55⟩,
    ⟨true, .tup [], [(5, .row (.int .i64) (.var 11)), (4, .row (.int .u64) (.var 10)), (1, .cells (ch (cell1 memS 10 2) [(3, xi 2)]))], 21, [(z251, false), (z242, false)]⟩], by as_aux_lemma => kernel_rfl,
    allC_cons (way0 memS (by simp [kinds]) (fun j => match j with | 3 => (.var 2) | j => .var (j + 10)) (fun j => match j with | 2 => 4 | 3 => 5 | 1 => 1 | _ => 0) (by kernel_rfl) rfl rfl ?_) <|
    allC_cons (way0 memS (by simp [kinds]) (fun j => match j with | 0 => z245 | 2 => z246 | 3 => (.var 2) | 4 => (.var 3) | 5 => (.var 2) | 6 => z248 | j => .var (j + 10)) (fun j => match j with | 2 => 4 | 3 => 5 | 1 => 1 | _ => 0) (by kernel_rfl) rfl rfl ?_) <|
    allC_cons (way0 memS (by simp [kinds]) (fun j => match j with | 0 => z245 | 1 => z252 | 2 => z246 | 3 => (.var 2) | 4 => (.var 3) | 5 => (.var 2) | 6 => z248 | j => .var (j + 10)) (fun j => match j with | 2 => 4 | 3 => 5 | 1 => 1 | _ => 0) (by kernel_rfl) rfl rfl ?_) <|
    allC_cons (wayNo ?_) <|
    allC_cons (wayNo ?_) <|
    allC_cons (wayNo ?_) <|
    allC_cons (wayNo ?_) <|
    allC_cons (way0 memS (by simp [kinds]) (fun j => match j with | 3 => (.var 2) | j => .var (j + 10)) (fun j => match j with | 2 => 4 | 3 => 5 | 1 => 1 | _ => 0) (by kernel_rfl) rfl rfl ?_) <|
    allC_nil _⟩ <|
  allS_nil _)
  all_goals as_aux_lemma =>
    intro n hp hg hi
    simp only [pt_nil, pt_cons, E.den, sg_f1, sg_f2, sg_f3, sg_f4, f1_0, f1_1, f1_2, f1_3, f1_4, f1_5, f1_6, f4_11, O1.ap, O3.ap, ap_arith, ap_bits, ap_div, ap_shift, ap_eql, ap_lss, ap_beq, ap_min, ap_max, ap_nthI, ap_nthB, ap_inI, ap_inB, G.toInt_int, G.toBool_bool, G.toInts_ints, ltI_t, ltI_f, inN_t, inN_f, and_true, Nat.zero_add, Nat.reduceAdd, arith_add, arith_sub, arith_mul, i64, u64, cas_by, openAt, pinAt] at hp
    simp only [mAdd, memSp, memS, sg_f1, sg_f2, sg_f3, sg_f4, f1_0, f1_1, f1_2, f1_3, f1_4, f1_5, f1_6, f4_11, O1.ap, O3.ap, ap_arith, ap_bits, ap_div, ap_shift, ap_eql, ap_lss, ap_beq, ap_min, ap_max, ap_nthI, ap_nthB, ap_inI, ap_inB, G.toInt_int, G.toBool_bool, G.toInts_ints, ltI_t, ltI_f, inN_t, inN_f, and_true, Nat.zero_add, Nat.reduceAdd, arith_add, arith_sub, arith_mul, i64, u64, cas_by, openAt, pinAt] at hg hi
    obtain ⟨i1, i2, i3⟩ := hi
    (try simp only [i1, i2] at hp)
    first
    | (exfalso; omega)
    | ((first | (have hk := inW_t (w := G.toInts (n.v 10)) (a := G.toInt (n.v 3)) (by omega) (by omega)) | (have hk := inW_f (w := G.toInts (n.v 10)) (a := G.toInt (n.v 3)) (by omega)) | (have hk := trivial))
       refine ⟨?_, ?_, ?_⟩
       · simp only [mAdd, memSp, xi, xu, xb, SV.den, S2.den, S1.den, cellsDen, List.map, iE, uE, bE, E.den, sg_f1, sg_f2, sg_f3, sg_f4, f1_0, f1_1, f1_2, f1_3, f1_4, f1_5, f1_6, f4_11, O1.ap, O3.ap, ap_arith, ap_bits, ap_div, ap_shift, ap_eql, ap_lss, ap_beq, ap_min, ap_max, ap_nthI, ap_nthB, ap_inI, ap_inB, G.toInt_int, G.toBool_bool, G.toInts_ints, ltI_t, ltI_f, inN_t, inN_f, and_true, Nat.zero_add, Nat.reduceAdd, arith_add, arith_sub, arith_mul, i64, u64, cas_by, openAt, pinAt, hg, gmem_u, Mem.by', Mem.step, Mem.at', Mem.set, Mem.load, Mem.val, Mem.store, Mem.casOk, Mem.cas, Mem.add, Mem.whenAt, okA_inW, hk, i64, u64, List.length_set] <;> first | rfl | (simp only [hp, reduceIte, Bool.false_eq_true, Bool.true_and, if_true, if_false, Bool.not_true, Bool.not_false, Bool.and_true, Bool.and_false, Bool.false_and]; done) | (simp_all; done)
       · simp only [memS, xi, xu, xb, SV.den, S2.den, S1.den, cellsDen, List.map, iE, uE, bE, E.den, sg_f1, sg_f2, sg_f3, sg_f4, f1_0, f1_1, f1_2, f1_3, f1_4, f1_5, f1_6, f4_11, O1.ap, O3.ap, ap_arith, ap_bits, ap_div, ap_shift, ap_eql, ap_lss, ap_beq, ap_min, ap_max, ap_nthI, ap_nthB, ap_inI, ap_inB, G.toInt_int, G.toBool_bool, G.toInts_ints, ltI_t, ltI_f, inN_t, inN_f, and_true, Nat.zero_add, Nat.reduceAdd, arith_add, arith_sub, arith_mul, i64, u64, cas_by, openAt, pinAt, hg, gmem_u, List.length_set] <;> first | exact ⟨i1, i2, i3⟩ | (simp_all; done)
       · simp only [mAdd, memSp, memS, xi, xu, xb, SV.den, S2.den, S1.den, cellsDen, List.map, iE, uE, bE, E.den, sg_f1, sg_f2, sg_f3, sg_f4, f1_0, f1_1, f1_2, f1_3, f1_4, f1_5, f1_6, f4_11, O1.ap, O3.ap, ap_arith, ap_bits, ap_div, ap_shift, ap_eql, ap_lss, ap_beq, ap_min, ap_max, ap_nthI, ap_nthB, ap_inI, ap_inB, G.toInt_int, G.toBool_bool, G.toInts_ints, ltI_t, ltI_f, inN_t, inN_f, and_true, Nat.zero_add, Nat.reduceAdd, arith_add, arith_sub, arith_mul, i64, u64, cas_by, openAt, pinAt, hg, gmem_u, Mem.by', Mem.step, Mem.at', Mem.set, Mem.load, Mem.val, Mem.store, Mem.casOk, Mem.cas, Mem.add, Mem.whenAt, okA_inW, hk, i64, u64, List.length_set] <;> first | rfl | (simp only [hp, reduceIte, Bool.false_eq_true, Bool.true_and, if_true, if_false, Bool.not_true, Bool.not_false, Bool.and_true, Bool.and_false, Bool.false_and]; done) | (simp_all; done))

theorem mNow_ok : mNow.t.ok SG prog 40 := by
  refine MSpec.ok tm1_ok mNow rfl (by kernel_rfl) (
  allS_cons ⟨[⟨true, .one (.c (xi 12)), [(5, .row (.int .i64) (.var 11)), (4, .row (.int .u64) (.var 10)), (1, .cells (ch (cell1 memS 10 2) []))], 21, []⟩], by as_aux_lemma => kernel_rfl,
    allC_cons (way0 memS (by simp [kinds]) (fun j => match j with  | j => .var (j + 10)) (fun j => match j with | 2 => 4 | 3 => 5 | 1 => 1 | _ => 0) (by kernel_rfl) rfl rfl ?_) <|
    allC_nil _⟩ <|
  allS_nil _)
  all_goals as_aux_lemma =>
    intro n hp hg hi
    simp only [pt_nil, pt_cons, E.den, sg_f1, sg_f2, sg_f3, sg_f4, f1_0, f1_1, f1_2, f1_3, f1_4, f1_5, f1_6, f1_41, O1.ap, O3.ap, ap_arith, ap_bits, ap_div, ap_shift, ap_eql, ap_lss, ap_beq, ap_min, ap_max, ap_nthI, ap_nthB, ap_inI, ap_inB, G.toInt_int, G.toBool_bool, G.toInts_ints, ltI_t, ltI_f, inN_t, inN_f, and_true, Nat.zero_add, Nat.reduceAdd, arith_add, arith_sub, arith_mul, i64, u64, cas_by, openAt, pinAt] at hp
    simp only [mNow, memSp, memS, sg_f1, sg_f2, sg_f3, sg_f4, f1_0, f1_1, f1_2, f1_3, f1_4, f1_5, f1_6, f1_41, O1.ap, O3.ap, ap_arith, ap_bits, ap_div, ap_shift, ap_eql, ap_lss, ap_beq, ap_min, ap_max, ap_nthI, ap_nthB, ap_inI, ap_inB, G.toInt_int, G.toBool_bool, G.toInts_ints, ltI_t, ltI_f, inN_t, inN_f, and_true, Nat.zero_add, Nat.reduceAdd, arith_add, arith_sub, arith_mul, i64, u64, cas_by, openAt, pinAt] at hg hi
    obtain ⟨i1, i2, i3⟩ := hi
    (try simp only [i1, i2] at hp)
    first
    | (exfalso; omega)
    | ((first | (have hk := inW_t (w := G.toInts (n.v 10)) (a := G.toInt (n.v 3)) (by omega) (by omega)) | (have hk := inW_f (w := G.toInts (n.v 10)) (a := G.toInt (n.v 3)) (by omega)) | (have hk := trivial))
       refine ⟨?_, ?_, ?_⟩
       · simp only [mNow, memSp, xi, xu, xb, SV.den, S2.den, S1.den, cellsDen, List.map, iE, uE, bE, E.den, sg_f1, sg_f2, sg_f3, sg_f4, f1_0, f1_1, f1_2, f1_3, f1_4, f1_5, f1_6, f1_41, O1.ap, O3.ap, ap_arith, ap_bits, ap_div, ap_shift, ap_eql, ap_lss, ap_beq, ap_min, ap_max, ap_nthI, ap_nthB, ap_inI, ap_inB, G.toInt_int, G.toBool_bool, G.toInts_ints, ltI_t, ltI_f, inN_t, inN_f, and_true, Nat.zero_add, Nat.reduceAdd, arith_add, arith_sub, arith_mul, i64, u64, cas_by, openAt, pinAt, hg, gmem_u, Mem.by', Mem.step, Mem.at', Mem.set, Mem.load, Mem.val, Mem.store, Mem.casOk, Mem.cas, Mem.add, Mem.whenAt, okA_inW, hk, i64, u64, List.length_set] <;> first | rfl | (simp only [hp, reduceIte, Bool.false_eq_true, Bool.true_and, if_true, if_false, Bool.not_true, Bool.not_false, Bool.and_true, Bool.and_false, Bool.false_and]; done) | (simp_all; done)
       · simp only [memS, xi, xu, xb, SV.den, S2.den, S1.den, cellsDen, List.map, iE, uE, bE, E.den, sg_f1, sg_f2, sg_f3, sg_f4, f1_0, f1_1, f1_2, f1_3, f1_4, f1_5, f1_6, f1_41, O1.ap, O3.ap, ap_arith, ap_bits, ap_div, ap_shift, ap_eql, ap_lss, ap_beq, ap_min, ap_max, ap_nthI, ap_nthB, ap_inI, ap_inB, G.toInt_int, G.toBool_bool, G.toInts_ints, ltI_t, ltI_f, inN_t, inN_f, and_true, Nat.zero_add, Nat.reduceAdd, arith_add, arith_sub, arith_mul, i64, u64, cas_by, openAt, pinAt, hg, gmem_u, List.length_set] <;> first | exact ⟨i1, i2, i3⟩ | (simp_all; done)
       · simp only [mNow, memSp, memS, xi, xu, xb, SV.den, S2.den, S1.den, cellsDen, List.map, iE, uE, bE, E.den, sg_f1, sg_f2, sg_f3, sg_f4, f1_0, f1_1, f1_2, f1_3, f1_4, f1_5, f1_6, f1_41, O1.ap, O3.ap, ap_arith, ap_bits, ap_div, ap_shift, ap_eql, ap_lss, ap_beq, ap_min, ap_max, ap_nthI, ap_nthB, ap_inI, ap_inB, G.toInt_int, G.toBool_bool, G.toInts_ints, ltI_t, ltI_f, inN_t, inN_f, and_true, Nat.zero_add, Nat.reduceAdd, arith_add, arith_sub, arith_mul, i64, u64, cas_by, openAt, pinAt, hg, gmem_u, Mem.by', Mem.step, Mem.at', Mem.set, Mem.load, Mem.val, Mem.store, Mem.casOk, Mem.cas, Mem.add, Mem.whenAt, okA_inW, hk, i64, u64, List.length_set] <;> first | rfl | (simp only [hp, reduceIte, Bool.false_eq_true, Bool.true_and, if_true, if_false, Bool.not_true, Bool.not_false, Bool.and_true, Bool.and_false, Bool.false_and]; done) | (simp_all; done))

abbrev z260 : E := .o2 .lss (.var 3) (.int 0)
abbrev z261 : E := .o2 .inI (.var 10) (.var 3)
abbrev z262 : E := .o2 .lss (.var 3) (.var 17)
abbrev z263 : E := .o2 .lss (.var 3) (.o1 .nat (.var 17))
abbrev z2p64 : Path := (z263, true) :: [(z260, false)]
abbrev z2p65 : Path := (z262, true) :: z2p64
theorem mPeek_ok : mPeek.t.ok SG prog 51 := by
  refine MSpec.ok tm1_ok mPeek rfl (by kernel_rfl) (
  allS_cons ⟨[⟨true, .one (.c (.int .u64 (.int 0))), [(5, .row (.int .i64) (.var 11)), (4, .row (.int .u64) (.var 10)), (1, .cells (ch (cell1 memS 10 2) []))], 20, [(z260, true)]⟩,
    ⟨true, .one (.c (.int .u64 (.o2 .nthI (.var 10) (.var 3)))), [(5, .row (.int .i64) (.var 11)), (4, .row (.int .u64) (.var 10)), (1, .cells (ch (cell1 memS 10 2) []))], 20, (z261, true) :: z2p65⟩,
    ⟨false, .tup [], [], 0, (z261, false) :: z2p65⟩,
    ⟨false, .tup [], [], 0, (z262, false) :: z2p64⟩,
    ⟨true, .one (.c (.int .u64 (.int 0))), [(5, .row (.int .i64) (.var 11)), (4, .row (.int .u64) (.var 10)), (1, .cells (ch (cell1 memS 10 2) []))], 20, [(z263, false), (z260, false)]⟩], by as_aux_lemma => kernel_rfl,
    allC_cons (way0 memS (by simp [kinds]) (fun j => match j with  | j => .var (j + 10)) (fun j => match j with | 2 => 4 | 3 => 5 | 1 => 1 | _ => 0) (by kernel_rfl) rfl rfl ?_) <|
    allC_cons (way0 memS (by simp [kinds]) (fun j => match j with  | j => .var (j + 10)) (fun j => match j with | 2 => 4 | 3 => 5 | 1 => 1 | _ => 0) (by kernel_rfl) rfl rfl ?_) <|
    allC_cons (wayNo ?_) <|
    allC_cons (wayNo ?_) <|
    allC_cons (way0 memS (by simp [kinds]) (fun j => match j with  | j => .var (j + 10)) (fun j => match j with | 2 => 4 | 3 => 5 | 1 => 1 | _ => 0) (by kernel_rfl) rfl rfl ?_) <|
    allC_nil _⟩ <|
  allS_nil _)
  all_goals as_aux_lemma =>
    intro n hp hg hi
    simp only [pt_nil, pt_cons, E.den, sg_f1, sg_f2, sg_f3, sg_f4, f2_20, O1.ap, O3.ap, ap_arith, ap_bits, ap_div, ap_shift, ap_eql, ap_lss, ap_beq, ap_min, ap_max, ap_nthI, ap_nthB, ap_inI, ap_inB, G.toInt_int, G.toBool_bool, G.toInts_ints, ltI_t, ltI_f, inN_t, inN_f, and_true, Nat.zero_add, Nat.reduceAdd, arith_add, arith_sub, arith_mul, i64, u64, cas_by, openAt, pinAt] at hp
    simp only [mPeek, memSp, memS, sg_f1, sg_f2, sg_f3, sg_f4, f2_20, O1.ap, O3.ap, ap_arith, ap_bits, ap_div, ap_shift, ap_eql, ap_lss, ap_beq, ap_min, ap_max, ap_nthI, ap_nthB, ap_inI, ap_inB, G.toInt_int, G.toBool_bool, G.toInts_ints, ltI_t, ltI_f, inN_t, inN_f, and_true, Nat.zero_add, Nat.reduceAdd, arith_add, arith_sub, arith_mul, i64, u64, cas_by, openAt, pinAt] at hg hi
    obtain ⟨i1, i2, i3⟩ := hi
    (try simp only [i1, i2] at hp)
    first
    | (exfalso; omega)
    | ((first | (have hk := inW_t (w := G.toInts (n.v 10)) (a := G.toInt (n.v 3)) (by omega) (by omega)) | (have hk := inW_f (w := G.toInts (n.v 10)) (a := G.toInt (n.v 3)) (by omega)) | (have hk := trivial))
       refine ⟨?_, ?_, ?_⟩
       · simp only [mPeek, memSp, xi, xu, xb, SV.den, S2.den, S1.den, cellsDen, List.map, iE, uE, bE, E.den, sg_f1, sg_f2, sg_f3, sg_f4, f2_20, O1.ap, O3.ap, ap_arith, ap_bits, ap_div, ap_shift, ap_eql, ap_lss, ap_beq, ap_min, ap_max, ap_nthI, ap_nthB, ap_inI, ap_inB, G.toInt_int, G.toBool_bool, G.toInts_ints, ltI_t, ltI_f, inN_t, inN_f, and_true, Nat.zero_add, Nat.reduceAdd, arith_add, arith_sub, arith_mul, i64, u64, cas_by, openAt, pinAt, hg, gmem_u, Mem.by', Mem.step, Mem.at', Mem.set, Mem.load, Mem.val, Mem.store, Mem.casOk, Mem.cas, Mem.add, Mem.whenAt, okA_inW, hk, i64, u64, List.length_set] <;> first | rfl | (simp only [hp, reduceIte, Bool.false_eq_true, Bool.true_and, if_true, if_false, Bool.not_true, Bool.not_false, Bool.and_true, Bool.and_false, Bool.false_and]; done) | (simp_all; done)
       · simp only [memS, xi, xu, xb, SV.den, S2.den, S1.den, cellsDen, List.map, iE, uE, bE, E.den, sg_f1, sg_f2, sg_f3, sg_f4, f2_20, O1.ap, O3.ap, ap_arith, ap_bits, ap_div, ap_shift, ap_eql, ap_lss, ap_beq, ap_min, ap_max, ap_nthI, ap_nthB, ap_inI, ap_inB, G.toInt_int, G.toBool_bool, G.toInts_ints, ltI_t, ltI_f, inN_t, inN_f, and_true, Nat.zero_add, Nat.reduceAdd, arith_add, arith_sub, arith_mul, i64, u64, cas_by, openAt, pinAt, hg, gmem_u, List.length_set] <;> first | exact ⟨i1, i2, i3⟩ | (simp_all; done)
       · simp only [mPeek, memSp, memS, xi, xu, xb, SV.den, S2.den, S1.den, cellsDen, List.map, iE, uE, bE, E.den, sg_f1, sg_f2, sg_f3, sg_f4, f2_20, O1.ap, O3.ap, ap_arith, ap_bits, ap_div, ap_shift, ap_eql, ap_lss, ap_beq, ap_min, ap_max, ap_nthI, ap_nthB, ap_inI, ap_inB, G.toInt_int, G.toBool_bool, G.toInts_ints, ltI_t, ltI_f, inN_t, inN_f, and_true, Nat.zero_add, Nat.reduceAdd, arith_add, arith_sub, arith_mul, i64, u64, cas_by, openAt, pinAt, hg, gmem_u, Mem.by', Mem.step, Mem.at', Mem.set, Mem.load, Mem.val, Mem.store, Mem.casOk, Mem.cas, Mem.add, Mem.whenAt, okA_inW, hk, i64, u64, List.length_set] <;> first | rfl | (simp only [hp, reduceIte, Bool.false_eq_true, Bool.true_and, if_true, if_false, Bool.not_true, Bool.not_false, Bool.and_true, Bool.and_false, Bool.false_and]; done) | (simp_all; done))

abbrev z266 : E := .o2 .lss (.var 3) (.int 0)
abbrev z267 : E := .o2 .inI (.var 11) (.var 3)
abbrev z268 : E := .o2 .lss (.var 3) (.var 18)
abbrev z269 : E := .o2 .lss (.var 3) (.o1 .nat (.var 17))
abbrev z2p70 : Path := (z269, true) :: [(z266, false)]
abbrev z2p71 : Path := (z268, true) :: z2p70
theorem mWhen_ok : mWhen.t.ok SG prog 355 := by
  refine MSpec.ok tm1_ok mWhen rfl (by kernel_rfl) (
  allS_cons ⟨[⟨true, .one (.c (.int .i64 (.int 0))), [(5, .row (.int .i64) (.var 11)), (4, .row (.int .u64) (.var 10)), (1, .cells (ch (cell1 memS 10 2) []))], 20, [(z266, true)]⟩,
    ⟨true, .one (.c (.int .i64 (.o2 .nthI (.var 11) (.var 3)))), [(5, .row (.int .i64) (.var 11)), (4, .row (.int .u64) (.var 10)), (1, .cells (ch (cell1 memS 10 2) []))], 20, (z267, true) :: z2p71⟩,
    ⟨false, .tup [], [], 0, (z267, false) :: z2p71⟩,
    ⟨false, .tup [], [], 0, (z268, false) :: z2p70⟩,
    ⟨true, .one (.c (.int .i64 (.int 0))), [(5, .row (.int .i64) (.var 11)), (4, .row (.int .u64) (.var 10)), (1, .cells (ch (cell1 memS 10 2) []))], 20, [(z269, false), (z266, false)]⟩], by as_aux_lemma => kernel_rfl,
    allC_cons (way0 memS (by simp [kinds]) (fun j => match j with  | j => .var (j + 10)) (fun j => match j with | 2 => 4 | 3 => 5 | 1 => 1 | _ => 0) (by kernel_rfl) rfl rfl ?_) <|
    allC_cons (way0 memS (by simp [kinds]) (fun j => match j with  | j => .var (j + 10)) (fun j => match j with | 2 => 4 | 3 => 5 | 1 => 1 | _ => 0) (by kernel_rfl) rfl rfl ?_) <|
    allC_cons (wayNo ?_) <|
    allC_cons (wayNo ?_) <|
    allC_cons (way0 memS (by simp [kinds]) (fun j => match j with  | j => .var (j + 10)) (fun j => match j with | 2 => 4 | 3 => 5 | 1 => 1 | _ => 0) (by kernel_rfl) rfl rfl ?_) <|
    allC_nil _⟩ <|
  allS_nil _)
  all_goals as_aux_lemma =>
    intro n hp hg hi
    simp only [pt_nil, pt_cons, E.den, sg_f1, sg_f2, sg_f3, sg_f4, f2_21, O1.ap, O3.ap, ap_arith, ap_bits, ap_div, ap_shift, ap_eql, ap_lss, ap_beq, ap_min, ap_max, ap_nthI, ap_nthB, ap_inI, ap_inB, G.toInt_int, G.toBool_bool, G.toInts_ints, ltI_t, ltI_f, inN_t, inN_f, and_true, Nat.zero_add, Nat.reduceAdd, arith_add, arith_sub, arith_mul, i64, u64, cas_by, openAt, pinAt] at hp
    simp only [mWhen, memSp, memS, sg_f1, sg_f2, sg_f3, sg_f4, f2_21, O1.ap, O3.ap, ap_arith, ap_bits, ap_div, ap_shift, ap_eql, ap_lss, ap_beq, ap_min, ap_max, ap_nthI, ap_nthB, ap_inI, ap_inB, G.toInt_int, G.toBool_bool, G.toInts_ints, ltI_t, ltI_f, inN_t, inN_f, and_true, Nat.zero_add, Nat.reduceAdd, arith_add, arith_sub, arith_mul, i64, u64, cas_by, openAt, pinAt] at hg hi
    obtain ⟨i1, i2, i3⟩ := hi
    (try simp only [i1, i2] at hp)
    first
    | (exfalso; omega)
    | ((first | (have hk := inW_t (w := G.toInts (n.v 10)) (a := G.toInt (n.v 3)) (by omega) (by omega)) | (have hk := inW_f (w := G.toInts (n.v 10)) (a := G.toInt (n.v 3)) (by omega)) | (have hk := trivial))
       refine ⟨?_, ?_, ?_⟩
       · simp only [mWhen, memSp, xi, xu, xb, SV.den, S2.den, S1.den, cellsDen, List.map, iE, uE, bE, E.den, sg_f1, sg_f2, sg_f3, sg_f4, f2_21, O1.ap, O3.ap, ap_arith, ap_bits, ap_div, ap_shift, ap_eql, ap_lss, ap_beq, ap_min, ap_max, ap_nthI, ap_nthB, ap_inI, ap_inB, G.toInt_int, G.toBool_bool, G.toInts_ints, ltI_t, ltI_f, inN_t, inN_f, and_true, Nat.zero_add, Nat.reduceAdd, arith_add, arith_sub, arith_mul, i64, u64, cas_by, openAt, pinAt, hg, gmem_u, Mem.by', Mem.step, Mem.at', Mem.set, Mem.load, Mem.val, Mem.store, Mem.casOk, Mem.cas, Mem.add, Mem.whenAt, okA_inW, hk, i64, u64, List.length_set] <;> first | rfl | (simp only [hp, reduceIte, Bool.false_eq_true, Bool.true_and, if_true, if_false, Bool.not_true, Bool.not_false, Bool.and_true, Bool.and_false, Bool.false_and]; done) | (simp_all; done)
       · simp only [memS, xi, xu, xb, SV.den, S2.den, S1.den, cellsDen, List.map, iE, uE, bE, E.den, sg_f1, sg_f2, sg_f3, sg_f4, f2_21, O1.ap, O3.ap, ap_arith, ap_bits, ap_div, ap_shift, ap_eql, ap_lss, ap_beq, ap_min, ap_max, ap_nthI, ap_nthB, ap_inI, ap_inB, G.toInt_int, G.toBool_bool, G.toInts_ints, ltI_t, ltI_f, inN_t, inN_f, and_true, Nat.zero_add, Nat.reduceAdd, arith_add, arith_sub, arith_mul, i64, u64, cas_by, openAt, pinAt, hg, gmem_u, List.length_set] <;> first | exact ⟨i1, i2, i3⟩ | (simp_all; done)
       · simp only [mWhen, memSp, memS, xi, xu, xb, SV.den, S2.den, S1.den, cellsDen, List.map, iE, uE, bE, E.den, sg_f1, sg_f2, sg_f3, sg_f4, f2_21, O1.ap, O3.ap, ap_arith, ap_bits, ap_div, ap_shift, ap_eql, ap_lss, ap_beq, ap_min, ap_max, ap_nthI, ap_nthB, ap_inI, ap_inB, G.toInt_int, G.toBool_bool, G.toInts_ints, ltI_t, ltI_f, inN_t, inN_f, and_true, Nat.zero_add, Nat.reduceAdd, arith_add, arith_sub, arith_mul, i64, u64, cas_by, openAt, pinAt, hg, gmem_u, Mem.by', Mem.step, Mem.at', Mem.set, Mem.load, Mem.val, Mem.store, Mem.casOk, Mem.cas, Mem.add, Mem.whenAt, okA_inW, hk, i64, u64, List.length_set] <;> first | rfl | (simp only [hp, reduceIte, Bool.false_eq_true, Bool.true_and, if_true, if_false, Bool.not_true, Bool.not_false, Bool.and_true, Bool.and_false, Bool.false_and]; done) | (simp_all; done))

theorem mSteps_ok : mSteps.t.ok SG prog 86 := by
  refine MSpec.ok tm1_ok mSteps rfl (by kernel_rfl) (
  allS_cons ⟨[⟨true, .one (.c (xi 12)), [(5, .row (.int .i64) (.var 11)), (4, .row (.int .u64) (.var 10)), (1, .cells (ch (cell1 memS 10 2) []))], 20, []⟩], by as_aux_lemma => kernel_rfl,
    allC_cons (way0 memS (by simp [kinds]) (fun j => match j with  | j => .var (j + 10)) (fun j => match j with | 2 => 4 | 3 => 5 | 1 => 1 | _ => 0) (by kernel_rfl) rfl rfl ?_) <|
    allC_nil _⟩ <|
  allS_nil _)
  all_goals as_aux_lemma =>
    intro n hp hg hi
    simp only [pt_nil, pt_cons, E.den, sg_f1, sg_f2, sg_f3, sg_f4, f1_41, O1.ap, O3.ap, ap_arith, ap_bits, ap_div, ap_shift, ap_eql, ap_lss, ap_beq, ap_min, ap_max, ap_nthI, ap_nthB, ap_inI, ap_inB, G.toInt_int, G.toBool_bool, G.toInts_ints, ltI_t, ltI_f, inN_t, inN_f, and_true, Nat.zero_add, Nat.reduceAdd, arith_add, arith_sub, arith_mul, i64, u64, cas_by, openAt, pinAt] at hp
    simp only [mSteps, memSp, memS, sg_f1, sg_f2, sg_f3, sg_f4, f1_41, O1.ap, O3.ap, ap_arith, ap_bits, ap_div, ap_shift, ap_eql, ap_lss, ap_beq, ap_min, ap_max, ap_nthI, ap_nthB, ap_inI, ap_inB, G.toInt_int, G.toBool_bool, G.toInts_ints, ltI_t, ltI_f, inN_t, inN_f, and_true, Nat.zero_add, Nat.reduceAdd, arith_add, arith_sub, arith_mul, i64, u64, cas_by, openAt, pinAt] at hg hi
    obtain ⟨i1, i2, i3⟩ := hi
    (try simp only [i1, i2] at hp)
    first
    | (exfalso; omega)
    | ((first | (have hk := inW_t (w := G.toInts (n.v 10)) (a := G.toInt (n.v 3)) (by omega) (by omega)) | (have hk := inW_f (w := G.toInts (n.v 10)) (a := G.toInt (n.v 3)) (by omega)) | (have hk := trivial))
       refine ⟨?_, ?_, ?_⟩
       · simp only [mSteps, memSp, xi, xu, xb, SV.den, S2.den, S1.den, cellsDen, List.map, iE, uE, bE, E.den, sg_f1, sg_f2, sg_f3, sg_f4, f1_41, O1.ap, O3.ap, ap_arith, ap_bits, ap_div, ap_shift, ap_eql, ap_lss, ap_beq, ap_min, ap_max, ap_nthI, ap_nthB, ap_inI, ap_inB, G.toInt_int, G.toBool_bool, G.toInts_ints, ltI_t, ltI_f, inN_t, inN_f, and_true, Nat.zero_add, Nat.reduceAdd, arith_add, arith_sub, arith_mul, i64, u64, cas_by, openAt, pinAt, hg, gmem_u, Mem.by', Mem.step, Mem.at', Mem.set, Mem.load, Mem.val, Mem.store, Mem.casOk, Mem.cas, Mem.add, Mem.whenAt, okA_inW, hk, i64, u64, List.length_set] <;> first | rfl | (simp only [hp, reduceIte, Bool.false_eq_true, Bool.true_and, if_true, if_false, Bool.not_true, Bool.not_false, Bool.and_true, Bool.and_false, Bool.false_and]; done) | (simp_all; done)
       · simp only [memS, xi, xu, xb, SV.den, S2.den, S1.den, cellsDen, List.map, iE, uE, bE, E.den, sg_f1, sg_f2, sg_f3, sg_f4, f1_41, O1.ap, O3.ap, ap_arith, ap_bits, ap_div, ap_shift, ap_eql, ap_lss, ap_beq, ap_min, ap_max, ap_nthI, ap_nthB, ap_inI, ap_inB, G.toInt_int, G.toBool_bool, G.toInts_ints, ltI_t, ltI_f, inN_t, inN_f, and_true, Nat.zero_add, Nat.reduceAdd, arith_add, arith_sub, arith_mul, i64, u64, cas_by, openAt, pinAt, hg, gmem_u, List.length_set] <;> first | exact ⟨i1, i2, i3⟩ | (simp_all; done)
       · simp only [mSteps, memSp, memS, xi, xu, xb, SV.den, S2.den, S1.den, cellsDen, List.map, iE, uE, bE, E.den, sg_f1, sg_f2, sg_f3, sg_f4, f1_41, O1.ap, O3.ap, ap_arith, ap_bits, ap_div, ap_shift, ap_eql, ap_lss, ap_beq, ap_min, ap_max, ap_nthI, ap_nthB, ap_inI, ap_inB, G.toInt_int, G.toBool_bool, G.toInts_ints, ltI_t, ltI_f, inN_t, inN_f, and_true, Nat.zero_add, Nat.reduceAdd, arith_add, arith_sub, arith_mul, i64, u64, cas_by, openAt, pinAt, hg, gmem_u, Mem.by', Mem.step, Mem.at', Mem.set, Mem.load, Mem.val, Mem.store, Mem.casOk, Mem.cas, Mem.add, Mem.whenAt, okA_inW, hk, i64, u64, List.length_set] <;> first | rfl | (simp only [hp, reduceIte, Bool.false_eq_true, Bool.true_and, if_true, if_false, Bool.not_true, Bool.not_false, Bool.and_true, Bool.and_false, Bool.false_and]; done) | (simp_all; done))

theorem mMemLen_ok : mMemLen.t.ok SG prog 92 := by
  refine MSpec.ok tm1_ok mMemLen rfl (by kernel_rfl) (
  allS_cons ⟨[⟨true, .one (.c (.int .i64 (.o1 .nat (.var 17)))), [(5, .row (.int .i64) (.var 11)), (4, .row (.int .u64) (.var 10)), (1, .cells (ch (cell1 memS 10 2) []))], 20, []⟩], by as_aux_lemma => kernel_rfl,
    allC_cons (way0 memS (by simp [kinds]) (fun j => match j with  | j => .var (j + 10)) (fun j => match j with | 2 => 4 | 3 => 5 | 1 => 1 | _ => 0) (by kernel_rfl) rfl rfl ?_) <|
    allC_nil _⟩ <|
  allS_nil _)
  all_goals as_aux_lemma =>
    intro n hp hg hi
    simp only [pt_nil, pt_cons, E.den, sg_f1, sg_f2, sg_f3, sg_f4, f1_45, O1.ap, O3.ap, ap_arith, ap_bits, ap_div, ap_shift, ap_eql, ap_lss, ap_beq, ap_min, ap_max, ap_nthI, ap_nthB, ap_inI, ap_inB, G.toInt_int, G.toBool_bool, G.toInts_ints, ltI_t, ltI_f, inN_t, inN_f, and_true, Nat.zero_add, Nat.reduceAdd, arith_add, arith_sub, arith_mul, i64, u64, cas_by, openAt, pinAt] at hp
    simp only [mMemLen, memSp, memS, sg_f1, sg_f2, sg_f3, sg_f4, f1_45, O1.ap, O3.ap, ap_arith, ap_bits, ap_div, ap_shift, ap_eql, ap_lss, ap_beq, ap_min, ap_max, ap_nthI, ap_nthB, ap_inI, ap_inB, G.toInt_int, G.toBool_bool, G.toInts_ints, ltI_t, ltI_f, inN_t, inN_f, and_true, Nat.zero_add, Nat.reduceAdd, arith_add, arith_sub, arith_mul, i64, u64, cas_by, openAt, pinAt] at hg hi
    obtain ⟨i1, i2, i3⟩ := hi
    (try simp only [i1, i2] at hp)
    first
    | (exfalso; omega)
    | ((first | (have hk := inW_t (w := G.toInts (n.v 10)) (a := G.toInt (n.v 3)) (by omega) (by omega)) | (have hk := inW_f (w := G.toInts (n.v 10)) (a := G.toInt (n.v 3)) (by omega)) | (have hk := trivial))
       refine ⟨?_, ?_, ?_⟩
       · simp only [mMemLen, memSp, xi, xu, xb, SV.den, S2.den, S1.den, cellsDen, List.map, iE, uE, bE, E.den, sg_f1, sg_f2, sg_f3, sg_f4, f1_45, O1.ap, O3.ap, ap_arith, ap_bits, ap_div, ap_shift, ap_eql, ap_lss, ap_beq, ap_min, ap_max, ap_nthI, ap_nthB, ap_inI, ap_inB, G.toInt_int, G.toBool_bool, G.toInts_ints, ltI_t, ltI_f, inN_t, inN_f, and_true, Nat.zero_add, Nat.reduceAdd, arith_add, arith_sub, arith_mul, i64, u64, cas_by, openAt, pinAt, hg, gmem_u, Mem.by', Mem.step, Mem.at', Mem.set, Mem.load, Mem.val, Mem.store, Mem.casOk, Mem.cas, Mem.add, Mem.whenAt, okA_inW, hk, i64, u64, List.length_set] <;> first | rfl | (simp only [hp, reduceIte, Bool.false_eq_true, Bool.true_and, if_true, if_false, Bool.not_true, Bool.not_false, Bool.and_true, Bool.and_false, Bool.false_and]; done) | (simp_all; done)
       · simp only [memS, xi, xu, xb, SV.den, S2.den, S1.den, cellsDen, List.map, iE, uE, bE, E.den, sg_f1, sg_f2, sg_f3, sg_f4, f1_45, O1.ap, O3.ap, ap_arith, ap_bits, ap_div, ap_shift, ap_eql, ap_lss, ap_beq, ap_min, ap_max, ap_nthI, ap_nthB, ap_inI, ap_inB, G.toInt_int, G.toBool_bool, G.toInts_ints, ltI_t, ltI_f, inN_t, inN_f, and_true, Nat.zero_add, Nat.reduceAdd, arith_add, arith_sub, arith_mul, i64, u64, cas_by, openAt, pinAt, hg, gmem_u, List.length_set] <;> first | exact ⟨i1, i2, i3⟩ | (simp_all; done)
       · simp only [mMemLen, memSp, memS, xi, xu, xb, SV.den, S2.den, S1.den, cellsDen, List.map, iE, uE, bE, E.den, sg_f1, sg_f2, sg_f3, sg_f4, f1_45, O1.ap, O3.ap, ap_arith, ap_bits, ap_div, ap_shift, ap_eql, ap_lss, ap_beq, ap_min, ap_max, ap_nthI, ap_nthB, ap_inI, ap_inB, G.toInt_int, G.toBool_bool, G.toInts_ints, ltI_t, ltI_f, inN_t, inN_f, and_true, Nat.zero_add, Nat.reduceAdd, arith_add, arith_sub, arith_mul, i64, u64, cas_by, openAt, pinAt, hg, gmem_u, Mem.by', Mem.step, Mem.at', Mem.set, Mem.load, Mem.val, Mem.store, Mem.casOk, Mem.cas, Mem.add, Mem.whenAt, okA_inW, hk, i64, u64, List.length_set] <;> first | rfl | (simp only [hp, reduceIte, Bool.false_eq_true, Bool.true_and, if_true, if_false, Bool.not_true, Bool.not_false, Bool.and_true, Bool.and_false, Bool.false_and]; done) | (simp_all; done))

theorem mLast_ok : mLast.t.ok SG prog 50 := by
  refine MSpec.ok tm1_ok mLast rfl (by kernel_rfl) (
  allS_cons ⟨[⟨true, .one (.agg [xi 14, xi 15, xb 16]), [(5, .row (.int .i64) (.var 11)), (4, .row (.int .u64) (.var 10)), (1, .cells (ch (cell1 memS 10 2) []))], 21, []⟩], by as_aux_lemma => kernel_rfl,
    allC_cons (way0 memS (by simp [kinds]) (fun j => match j with  | j => .var (j + 10)) (fun j => match j with | 2 => 4 | 3 => 5 | 1 => 1 | _ => 0) (by kernel_rfl) rfl rfl ?_) <|
    allC_nil _⟩ <|
  allS_nil _)
  all_goals as_aux_lemma =>
    intro n hp hg hi
    simp only [pt_nil, pt_cons, E.den, sg_f1, sg_f2, sg_f3, sg_f4, f1_42, f1_43, f1_44, O1.ap, O3.ap, ap_arith, ap_bits, ap_div, ap_shift, ap_eql, ap_lss, ap_beq, ap_min, ap_max, ap_nthI, ap_nthB, ap_inI, ap_inB, G.toInt_int, G.toBool_bool, G.toInts_ints, ltI_t, ltI_f, inN_t, inN_f, and_true, Nat.zero_add, Nat.reduceAdd, arith_add, arith_sub, arith_mul, i64, u64, cas_by, openAt, pinAt] at hp
    simp only [mLast, memSp, memS, sg_f1, sg_f2, sg_f3, sg_f4, f1_42, f1_43, f1_44, O1.ap, O3.ap, ap_arith, ap_bits, ap_div, ap_shift, ap_eql, ap_lss, ap_beq, ap_min, ap_max, ap_nthI, ap_nthB, ap_inI, ap_inB, G.toInt_int, G.toBool_bool, G.toInts_ints, ltI_t, ltI_f, inN_t, inN_f, and_true, Nat.zero_add, Nat.reduceAdd, arith_add, arith_sub, arith_mul, i64, u64, cas_by, openAt, pinAt] at hg hi
    obtain ⟨i1, i2, i3⟩ := hi
    (try simp only [i1, i2] at hp)
    first
    | (exfalso; omega)
    | ((first | (have hk := inW_t (w := G.toInts (n.v 10)) (a := G.toInt (n.v 3)) (by omega) (by omega)) | (have hk := inW_f (w := G.toInts (n.v 10)) (a := G.toInt (n.v 3)) (by omega)) | (have hk := trivial))
       refine ⟨?_, ?_, ?_⟩
       · simp only [mLast, memSp, xi, xu, xb, SV.den, S2.den, S1.den, cellsDen, List.map, iE, uE, bE, E.den, sg_f1, sg_f2, sg_f3, sg_f4, f1_42, f1_43, f1_44, O1.ap, O3.ap, ap_arith, ap_bits, ap_div, ap_shift, ap_eql, ap_lss, ap_beq, ap_min, ap_max, ap_nthI, ap_nthB, ap_inI, ap_inB, G.toInt_int, G.toBool_bool, G.toInts_ints, ltI_t, ltI_f, inN_t, inN_f, and_true, Nat.zero_add, Nat.reduceAdd, arith_add, arith_sub, arith_mul, i64, u64, cas_by, openAt, pinAt, hg, gmem_u, Mem.by', Mem.step, Mem.at', Mem.set, Mem.load, Mem.val, Mem.store, Mem.casOk, Mem.cas, Mem.add, Mem.whenAt, okA_inW, hk, i64, u64, List.length_set] <;> first | rfl | (simp only [hp, reduceIte, Bool.false_eq_true, Bool.true_and, if_true, if_false, Bool.not_true, Bool.not_false, Bool.and_true, Bool.and_false, Bool.false_and]; done) | (simp_all; done)
       · simp only [memS, xi, xu, xb, SV.den, S2.den, S1.den, cellsDen, List.map, iE, uE, bE, E.den, sg_f1, sg_f2, sg_f3, sg_f4, f1_42, f1_43, f1_44, O1.ap, O3.ap, ap_arith, ap_bits, ap_div, ap_shift, ap_eql, ap_lss, ap_beq, ap_min, ap_max, ap_nthI, ap_nthB, ap_inI, ap_inB, G.toInt_int, G.toBool_bool, G.toInts_ints, ltI_t, ltI_f, inN_t, inN_f, and_true, Nat.zero_add, Nat.reduceAdd, arith_add, arith_sub, arith_mul, i64, u64, cas_by, openAt, pinAt, hg, gmem_u, List.length_set] <;> first | exact ⟨i1, i2, i3⟩ | (simp_all; done)
       · simp only [mLast, memSp, memS, xi, xu, xb, SV.den, S2.den, S1.den, cellsDen, List.map, iE, uE, bE, E.den, sg_f1, sg_f2, sg_f3, sg_f4, f1_42, f1_43, f1_44, O1.ap, O3.ap, ap_arith, ap_bits, ap_div, ap_shift, ap_eql, ap_lss, ap_beq, ap_min, ap_max, ap_nthI, ap_nthB, ap_inI, ap_inB, G.toInt_int, G.toBool_bool, G.toInts_ints, ltI_t, ltI_f, inN_t, inN_f, and_true, Nat.zero_add, Nat.reduceAdd, arith_add, arith_sub, arith_mul, i64, u64, cas_by, openAt, pinAt, hg, gmem_u, Mem.by', Mem.step, Mem.at', Mem.set, Mem.load, Mem.val, Mem.store, Mem.casOk, Mem.cas, Mem.add, Mem.whenAt, okA_inW, hk, i64, u64, List.length_set] <;> first | rfl | (simp only [hp, reduceIte, Bool.false_eq_true, Bool.true_and, if_true, if_false, Bool.not_true, Bool.not_false, Bool.and_true, Bool.and_false, Bool.false_and]; done) | (simp_all; done))

end Go.Fl

/- Templates, level 3: give, help, place. -/
namespace Go.Fl
open Go Go.Sx
variable [ExtF]

def ts2 : List (Nat × Tmpl) := [(189, mLoad.t), (191, mStore.t), (184, mCas.t), (268, mAdd.t), (40, mNow.t), (51, mPeek.t), (355, mWhen.t), (86, mSteps.t), (92, mMemLen.t), (50, mLast.t)]
theorem ts2_ok : AllT ts2 := allT_cons mLoad_ok <| allT_cons mStore_ok <| allT_cons mCas_ok <| allT_cons mAdd_ok <| allT_cons mNow_ok <| allT_cons mPeek_ok <| allT_cons mWhen_ok <|
  allT_cons mSteps_ok <| allT_cons mMemLen_ok <| allT_cons mLast_ok allT_nil
def tm2 : CH := tmOf (ts2 ++ ts1)
theorem tm2_ok : CallOK SG prog tm2 := tmOf_ok (allT_app ts2_ok ts1_ok)

/-- a worker is number 1 and stands for var 0, the words are number 2 and stand for var 1, the arena's shape is var 2, who asks is var 3 -/
def ev3 : SV := envV 2 2 3
def e4 (s : Nat) : E := .f4 s (.var 0) (.var 1) (.var 2) (.var 3)
def stepSp (k s : Nat) : MSpec := ⟨k, 0, 10, 3, 40, 3, [pV, ev3], [(2, .res 0 (.var 1))], bE (e4 (s + 2)), some (1, k, e4 s), [(2, .res 0 (e4 (s + 1)))]⟩
def mGive : MSpec := stepSp 2 23
def mHelp : MSpec := stepSp 3 26
def mPlace : MSpec := stepSp 1 20
def specs3 : List (String × Nat × MSpec) := [("mGive", 347, mGive), ("mHelp", 354, mHelp), ("mPlace", 231, mPlace)]
end Go.Fl

/- Templates, level 3, shown. -/
namespace Go.Fl
open Go Go.Sx Go.Proofs
variable [ExtF]
set_option linter.unusedSimpArgs false
set_option maxRecDepth 100000

abbrev z30 : E := .f2 20 (.var 1) (.int 1)
abbrev z31 : E := .o2 .eql (.var 10) (.int 0)
abbrev z32 : E := .o2 .eql (.var 10) (.int 1)
theorem mGive_ok : mGive.t.ok SG prog 347 := by
  refine MSpec.ok tm2_ok mGive rfl (by kernel_rfl) (
  allS_cons ⟨[⟨true, .one (.c (.bool (.bool false))), [(2, .res 0 (.f3 3 (.var 1) (.var 3) (.int 1))), (1, .cells (ch (cell1 giveS 10 3) [(0, .int .i64 (.int 1)), (2, .int .u64 z30)]))], 52, [(z31, true)]⟩,
    ⟨true, .one (.c (.bool (.bool false))), [(2, .res 0 (.f4 10 (.var 1) (.var 3) (.o2 (.arith .add .i64) (.f2 0 (.var 2) (.var 11)) (.int 1)) (.f2 11 (.f1 36 (.var 12)) (.int 0)))), (1, .cells (ch (cell1 giveS 10 3) [(0, .int .i64 (.int 2))]))], 53, [(z32, true), (z31, false)]⟩,
    ⟨true, .one (.c (.bool (.f3 2 (.var 1) (.int 1) (.var 12)))), [(2, .res 0 (.f4 12 (.f2 22 (.var 1) (.var 3)) (.int 1) (.var 12) (.f2 11 (.var 11) (.o2 (.arith .add .i64) (.f1 37 (.var 12)) (.int 1))))), (1, .cells (ch (cell1 giveS 10 3) [(0, .int .i64 (.int 0))]))], 56, [(z32, false), (z31, false)]⟩], by as_aux_lemma => kernel_rfl,
    allC_cons (way1 giveS (by simp [kinds]) (fun j => match j with | 0 => (.int 1) | 2 => z30 | j => .var (j + 10)) (fun j => match j with | 1 => 1 | _ => 0) (by kernel_rfl) rfl rfl rfl (by kernel_rfl) ?_) <|
    allC_cons (way1 giveS (by simp [kinds]) (fun j => match j with | 0 => (.int 2) | j => .var (j + 10)) (fun j => match j with | 1 => 1 | _ => 0) (by kernel_rfl) rfl rfl rfl (by kernel_rfl) ?_) <|
    allC_cons (way1 giveS (by simp [kinds]) (fun j => match j with | 0 => (.int 0) | j => .var (j + 10)) (fun j => match j with | 1 => 1 | _ => 0) (by kernel_rfl) rfl rfl rfl (by kernel_rfl) ?_) <|
    allC_nil _⟩ <|
  allS_nil _)
  all_goals as_aux_lemma =>
    intro n hp hg hi
    simp only [pt_nil, pt_cons, E.den, sg_f1, sg_f2, sg_f3, sg_f4, f1_0, f1_1, f1_2, f1_3, f1_4, f1_5, f1_6, f1_36, f1_37, f2_0, f2_11, f2_20, f2_22, f3_2, f3_3, f4_10, f4_12, f4_23, f4_24, f4_25, O1.ap, O3.ap, ap_arith, ap_bits, ap_div, ap_shift, ap_eql, ap_lss, ap_beq, ap_min, ap_max, ap_nthI, ap_nthB, ap_inI, ap_inB, G.toInt_int, G.toBool_bool, G.toInts_ints, ltI_t, ltI_f, inN_t, inN_f, and_true, Nat.zero_add, Nat.reduceAdd, arith_add, arith_sub, arith_mul, i64, u64, cas_by, openAt, pinAt, gplace_u, ggive_u, ghelp_u, galloc_u, gdrop_u, gaccess_u, gact_u, glst_u, gmem_u, gactx_u, gquad_u, Bool.not_eq_true', Bool.not_eq_false', beq_iff_eq, beq_eq_false_iff_ne, ne_eq] at hp
    simp only [mGive, stepSp, e4, giveS, helpS, placeS, sg_f1, sg_f2, sg_f3, sg_f4, f1_0, f1_1, f1_2, f1_3, f1_4, f1_5, f1_6, f1_36, f1_37, f2_0, f2_11, f2_20, f2_22, f3_2, f3_3, f4_10, f4_12, f4_23, f4_24, f4_25, O1.ap, O3.ap, ap_arith, ap_bits, ap_div, ap_shift, ap_eql, ap_lss, ap_beq, ap_min, ap_max, ap_nthI, ap_nthB, ap_inI, ap_inB, G.toInt_int, G.toBool_bool, G.toInts_ints, ltI_t, ltI_f, inN_t, inN_f, and_true, Nat.zero_add, Nat.reduceAdd, arith_add, arith_sub, arith_mul, i64, u64, cas_by, openAt, pinAt] at hg hi
    first
    | (simp only [mGive, stepSp, e4, giveS, helpS, placeS, xi, xu, xb, SV.den, S2.den, S1.den, cellsDen, List.map, iE, uE, bE, E.den, sg_f1, sg_f2, sg_f3, sg_f4, f1_0, f1_1, f1_2, f1_3, f1_4, f1_5, f1_6, f1_36, f1_37, f2_0, f2_11, f2_20, f2_22, f3_2, f3_3, f4_10, f4_12, f4_23, f4_24, f4_25, O1.ap, O3.ap, ap_arith, ap_bits, ap_div, ap_shift, ap_eql, ap_lss, ap_beq, ap_min, ap_max, ap_nthI, ap_nthB, ap_inI, ap_inB, G.toInt_int, G.toBool_bool, G.toInts_ints, ltI_t, ltI_f, inN_t, inN_f, and_true, Nat.zero_add, Nat.reduceAdd, arith_add, arith_sub, arith_mul, i64, u64, cas_by, openAt, pinAt, hg, gplace_u, ggive_u, ghelp_u, galloc_u, gdrop_u, gaccess_u, gact_u, glst_u, gmem_u, giveStep, hp, reduceIte, if_true, if_false, not_true, not_false_iff, Classical.not_not, true_and, and_true, false_and, and_false, true_or, or_true, false_or, or_false, Bool.not_true, Bool.not_false, Bool.and_true, Bool.and_false, Bool.false_and, Bool.true_and, decide_true, decide_false, Int.reduceEq, Bool.false_eq_true, Bool.true_eq_false]; done)
    | (simp only [mGive, stepSp, e4, giveS, helpS, placeS, xi, xu, xb, SV.den, S2.den, S1.den, cellsDen, List.map, iE, uE, bE, E.den, sg_f1, sg_f2, sg_f3, sg_f4, f1_0, f1_1, f1_2, f1_3, f1_4, f1_5, f1_6, f1_36, f1_37, f2_0, f2_11, f2_20, f2_22, f3_2, f3_3, f4_10, f4_12, f4_23, f4_24, f4_25, O1.ap, O3.ap, ap_arith, ap_bits, ap_div, ap_shift, ap_eql, ap_lss, ap_beq, ap_min, ap_max, ap_nthI, ap_nthB, ap_inI, ap_inB, G.toInt_int, G.toBool_bool, G.toInts_ints, ltI_t, ltI_f, inN_t, inN_f, and_true, Nat.zero_add, Nat.reduceAdd, arith_add, arith_sub, arith_mul, i64, u64, cas_by, openAt, pinAt, hg, gplace_u, ggive_u, ghelp_u, galloc_u, gdrop_u, gaccess_u, gact_u, glst_u, gmem_u, giveStep]; simp [hp]; done)
    | (simp only [mGive, stepSp, e4, giveS, helpS, placeS, xi, xu, xb, SV.den, S2.den, S1.den, cellsDen, List.map, iE, uE, bE, E.den, sg_f1, sg_f2, sg_f3, sg_f4, f1_0, f1_1, f1_2, f1_3, f1_4, f1_5, f1_6, f1_36, f1_37, f2_0, f2_11, f2_20, f2_22, f3_2, f3_3, f4_10, f4_12, f4_23, f4_24, f4_25, O1.ap, O3.ap, ap_arith, ap_bits, ap_div, ap_shift, ap_eql, ap_lss, ap_beq, ap_min, ap_max, ap_nthI, ap_nthB, ap_inI, ap_inB, G.toInt_int, G.toBool_bool, G.toInts_ints, ltI_t, ltI_f, inN_t, inN_f, and_true, Nat.zero_add, Nat.reduceAdd, arith_add, arith_sub, arith_mul, i64, u64, cas_by, openAt, pinAt, hg, gplace_u, ggive_u, ghelp_u, galloc_u, gdrop_u, gaccess_u, gact_u, glst_u, gmem_u, giveStep]; simp_all; done)
    | (exfalso; omega)
    | skip

abbrev z33 : E := .f2 22 (.var 1) (.var 3)
abbrev z34 : E := .o2 (.arith .add .i64) (.o2 (.arith .add .i64) (.f1 21 (.var 11)) (.int 1)) (.var 13)
abbrev z35 : E := .f1 23 (.var 11)
abbrev z36 : E := .f4 12 z33 z34 (.var 14) (.f3 0 (.f1 33 (.var 14)) (.bool true) z35)
abbrev z37 : E := .o2 (.arith .add .i64) (.var 13) (.int 1)
abbrev z38 : E := .f3 2 (.var 1) z34 (.var 14)
abbrev z39 : E := .o2 .lss (.var 13) (.var 12)
abbrev z310 : E := .f3 3 (.var 1) (.var 3) z34
abbrev z311 : E := .f2 20 (.var 1) z34
abbrev z312 : E := .o2 .eql (.f1 35 z311) z35
abbrev z313 : E := .o1 .not z312
abbrev z314 : E := .f2 0 (.var 2) (.var 10)
abbrev z315 : E := .f1 22 (.var 11)
abbrev z316 : E := .f3 2 (.var 1) z314 (.var 11)
abbrev z317 : E := .o2 .lss z315 (.f1 4 (.var 2))
abbrev z3p18 : Path := ((.var 15), true) :: [(z39, true)]
abbrev z3p19 : Path := ((.var 15), false) :: [(z39, true)]
abbrev z3p20 : Path := ((.f1 34 z311), true) :: z3p19
theorem mHelp_ok : mHelp.t.ok SG prog 354 := by
  refine MSpec.ok tm2_ok mHelp rfl (by kernel_rfl) (
  allS_cons ⟨[⟨true, .one (.c (.bool (.bool false))), [(2, .res 0 z36), (1, .cells (ch (cell1 helpS 10 3) [(3, .int .i64 z37), (5, .bool (.bool false))]))], 75, (z38, true) :: z3p18⟩,
    ⟨true, .one (.c (.bool (.bool false))), [(2, .res 0 z36), (1, .cells (ch (cell1 helpS 10 3) [(5, .bool (.bool false))]))], 75, (z38, false) :: z3p18⟩,
    ⟨true, .one (.c (.bool (.bool false))), [(2, .res 0 z310), (1, .cells (ch (cell1 helpS 10 3) [(3, .int .i64 z37), (4, .int .u64 z311), (5, .bool z313)]))], 62, (z312, true) :: z3p20⟩,
    ⟨true, .one (.c (.bool (.bool false))), [(2, .res 0 z310), (1, .cells (ch (cell1 helpS 10 3) [(4, .int .u64 z311), (5, .bool z313)]))], 62, (z312, false) :: z3p20⟩,
    ⟨true, .one (.c (.bool (.bool false))), [(2, .res 0 z310), (1, .cells (ch (cell1 helpS 10 3) [(4, .int .u64 z311), (5, .bool (.bool true))]))], 62, ((.f1 34 z311), false) :: z3p19⟩,
    ⟨true, .one (.c (.bool (.bool true))), [(2, .res 0 (.f4 12 z33 z314 (.var 11) (.f4 0 (.int 0) (.int 0) (.o2 (.arith .add .i64) z315 (.int 1)) (.int 0)))), (1, .cells (ch (cell1 helpS 10 3) [(6, .bool z316)]))], 82, [(z317, true), (z39, false)]⟩,
    ⟨true, .one (.c (.bool (.bool true))), [(2, .res 0 (.f4 12 z33 z314 (.var 11) (.f4 0 (.int 3) (.int 0) z315 (.int 0)))), (1, .cells (ch (cell1 helpS 10 3) [(6, .bool z316)]))], 82, [(z317, false), (z39, false)]⟩], by as_aux_lemma => kernel_rfl,
    allC_cons (way1 helpS (by simp [kinds]) (fun j => match j with | 3 => z37 | 5 => (.bool false) | j => .var (j + 10)) (fun j => match j with | 1 => 1 | _ => 0) (by kernel_rfl) rfl rfl rfl (by kernel_rfl) ?_) <|
    allC_cons (way1 helpS (by simp [kinds]) (fun j => match j with | 5 => (.bool false) | j => .var (j + 10)) (fun j => match j with | 1 => 1 | _ => 0) (by kernel_rfl) rfl rfl rfl (by kernel_rfl) ?_) <|
    allC_cons (way1 helpS (by simp [kinds]) (fun j => match j with | 3 => z37 | 4 => z311 | 5 => z313 | j => .var (j + 10)) (fun j => match j with | 1 => 1 | _ => 0) (by kernel_rfl) rfl rfl rfl (by kernel_rfl) ?_) <|
    allC_cons (way1 helpS (by simp [kinds]) (fun j => match j with | 4 => z311 | 5 => z313 | j => .var (j + 10)) (fun j => match j with | 1 => 1 | _ => 0) (by kernel_rfl) rfl rfl rfl (by kernel_rfl) ?_) <|
    allC_cons (way1 helpS (by simp [kinds]) (fun j => match j with | 4 => z311 | 5 => (.bool true) | j => .var (j + 10)) (fun j => match j with | 1 => 1 | _ => 0) (by kernel_rfl) rfl rfl rfl (by kernel_rfl) ?_) <|
    allC_cons (way1 helpS (by simp [kinds]) (fun j => match j with | 6 => z316 | j => .var (j + 10)) (fun j => match j with | 1 => 1 | _ => 0) (by kernel_rfl) rfl rfl rfl (by kernel_rfl) ?_) <|
    allC_cons (way1 helpS (by simp [kinds]) (fun j => match j with | 6 => z316 | j => .var (j + 10)) (fun j => match j with | 1 => 1 | _ => 0) (by kernel_rfl) rfl rfl rfl (by kernel_rfl) ?_) <|
    allC_nil _⟩ <|
  allS_nil _)
  all_goals as_aux_lemma =>
    intro n hp hg hi
    simp only [pt_nil, pt_cons, E.den, sg_f1, sg_f2, sg_f3, sg_f4, f1_0, f1_1, f1_2, f1_3, f1_4, f1_5, f1_6, f1_21, f1_22, f1_23, f1_33, f1_34, f1_35, f2_0, f2_20, f2_22, f3_0, f3_2, f3_3, f4_0, f4_12, f4_26, f4_27, f4_28, O1.ap, O3.ap, ap_arith, ap_bits, ap_div, ap_shift, ap_eql, ap_lss, ap_beq, ap_min, ap_max, ap_nthI, ap_nthB, ap_inI, ap_inB, G.toInt_int, G.toBool_bool, G.toInts_ints, ltI_t, ltI_f, inN_t, inN_f, and_true, Nat.zero_add, Nat.reduceAdd, arith_add, arith_sub, arith_mul, i64, u64, cas_by, openAt, pinAt, gplace_u, ggive_u, ghelp_u, galloc_u, gdrop_u, gaccess_u, gact_u, glst_u, gmem_u, gactx_u, gquad_u, Bool.not_eq_true', Bool.not_eq_false', beq_iff_eq, beq_eq_false_iff_ne, ne_eq] at hp
    simp only [mHelp, stepSp, e4, giveS, helpS, placeS, sg_f1, sg_f2, sg_f3, sg_f4, f1_0, f1_1, f1_2, f1_3, f1_4, f1_5, f1_6, f1_21, f1_22, f1_23, f1_33, f1_34, f1_35, f2_0, f2_20, f2_22, f3_0, f3_2, f3_3, f4_0, f4_12, f4_26, f4_27, f4_28, O1.ap, O3.ap, ap_arith, ap_bits, ap_div, ap_shift, ap_eql, ap_lss, ap_beq, ap_min, ap_max, ap_nthI, ap_nthB, ap_inI, ap_inB, G.toInt_int, G.toBool_bool, G.toInts_ints, ltI_t, ltI_f, inN_t, inN_f, and_true, Nat.zero_add, Nat.reduceAdd, arith_add, arith_sub, arith_mul, i64, u64, cas_by, openAt, pinAt] at hg hi
    first
    | (simp only [mHelp, stepSp, e4, giveS, helpS, placeS, xi, xu, xb, SV.den, S2.den, S1.den, cellsDen, List.map, iE, uE, bE, E.den, sg_f1, sg_f2, sg_f3, sg_f4, f1_0, f1_1, f1_2, f1_3, f1_4, f1_5, f1_6, f1_21, f1_22, f1_23, f1_33, f1_34, f1_35, f2_0, f2_20, f2_22, f3_0, f3_2, f3_3, f4_0, f4_12, f4_26, f4_27, f4_28, O1.ap, O3.ap, ap_arith, ap_bits, ap_div, ap_shift, ap_eql, ap_lss, ap_beq, ap_min, ap_max, ap_nthI, ap_nthB, ap_inI, ap_inB, G.toInt_int, G.toBool_bool, G.toInts_ints, ltI_t, ltI_f, inN_t, inN_f, and_true, Nat.zero_add, Nat.reduceAdd, arith_add, arith_sub, arith_mul, i64, u64, cas_by, openAt, pinAt, hg, gplace_u, ggive_u, ghelp_u, galloc_u, gdrop_u, gaccess_u, gact_u, glst_u, gmem_u, helpStep, hp, reduceIte, if_true, if_false, not_true, not_false_iff, Classical.not_not, true_and, and_true, false_and, and_false, true_or, or_true, false_or, or_false, Bool.not_true, Bool.not_false, Bool.and_true, Bool.and_false, Bool.false_and, Bool.true_and, decide_true, decide_false, Int.reduceEq, Bool.false_eq_true, Bool.true_eq_false]; done)
    | (simp only [mHelp, stepSp, e4, giveS, helpS, placeS, xi, xu, xb, SV.den, S2.den, S1.den, cellsDen, List.map, iE, uE, bE, E.den, sg_f1, sg_f2, sg_f3, sg_f4, f1_0, f1_1, f1_2, f1_3, f1_4, f1_5, f1_6, f1_21, f1_22, f1_23, f1_33, f1_34, f1_35, f2_0, f2_20, f2_22, f3_0, f3_2, f3_3, f4_0, f4_12, f4_26, f4_27, f4_28, O1.ap, O3.ap, ap_arith, ap_bits, ap_div, ap_shift, ap_eql, ap_lss, ap_beq, ap_min, ap_max, ap_nthI, ap_nthB, ap_inI, ap_inB, G.toInt_int, G.toBool_bool, G.toInts_ints, ltI_t, ltI_f, inN_t, inN_f, and_true, Nat.zero_add, Nat.reduceAdd, arith_add, arith_sub, arith_mul, i64, u64, cas_by, openAt, pinAt, hg, gplace_u, ggive_u, ghelp_u, galloc_u, gdrop_u, gaccess_u, gact_u, glst_u, gmem_u, helpStep]; simp [hp]; done)
    | (simp only [mHelp, stepSp, e4, giveS, helpS, placeS, xi, xu, xb, SV.den, S2.den, S1.den, cellsDen, List.map, iE, uE, bE, E.den, sg_f1, sg_f2, sg_f3, sg_f4, f1_0, f1_1, f1_2, f1_3, f1_4, f1_5, f1_6, f1_21, f1_22, f1_23, f1_33, f1_34, f1_35, f2_0, f2_20, f2_22, f3_0, f3_2, f3_3, f4_0, f4_12, f4_26, f4_27, f4_28, O1.ap, O3.ap, ap_arith, ap_bits, ap_div, ap_shift, ap_eql, ap_lss, ap_beq, ap_min, ap_max, ap_nthI, ap_nthB, ap_inI, ap_inB, G.toInt_int, G.toBool_bool, G.toInts_ints, ltI_t, ltI_f, inN_t, inN_f, and_true, Nat.zero_add, Nat.reduceAdd, arith_add, arith_sub, arith_mul, i64, u64, cas_by, openAt, pinAt, hg, gplace_u, ggive_u, ghelp_u, galloc_u, gdrop_u, gaccess_u, gact_u, glst_u, gmem_u, helpStep]; simp_all; done)
    | (exfalso; omega)
    | skip

abbrev z321 : E := .o2 (.arith .add .i64) (.int 2) (.var 10)
abbrev z322 : E := .f3 3 (.var 1) (.var 3) z321
abbrev z323 : E := .f2 20 (.var 1) z321
abbrev z324 : E := .o2 (.arith .sub .i64) (.o1 (.conv .i64) z323) (.int 1)
abbrev z325 : E := .o2 .lss z324 (.int 0)
abbrev z326 : E := .o2 .eql (.var 11) (.int 0)
abbrev z327 : E := .f2 1 (.var 2) (.var 13)
abbrev z328 : E := .f3 3 (.var 1) (.var 3) z327
abbrev z329 : E := .f2 20 (.var 1) z327
abbrev z330 : E := .f1 39 (.var 10)
abbrev z331 : E := .o2 .lss (.f1 3 (.var 2)) (.o2 (.arith .add .i64) (.f1 26 z329) z330)
abbrev z332 : E := .o2 .eql (.f1 25 z329) (.var 10)
abbrev z333 : E := .o2 .eql (.f1 24 z329) (.int 1)
abbrev z334 : E := .o2 .eql (.var 11) (.int 1)
abbrev z335 : E := .f2 22 (.var 1) (.var 3)
abbrev z336 : E := .f1 26 (.var 14)
abbrev z337 : E := .f1 27 (.var 14)
abbrev z338 : E := .f4 12 z335 z327 (.var 14) (.f4 1 (.f1 24 (.var 14)) (.f1 25 (.var 14)) (.o2 (.arith .add .i64) z336 z330) z337)
abbrev z339 : E := .o2 (.arith .add .i64) (.f2 2 (.var 2) (.var 13)) z336
abbrev z340 : E := .f3 2 (.var 1) z327 (.var 14)
abbrev z341 : E := .o2 .eql (.var 11) (.int 2)
abbrev z342 : E := .o2 .eql (.f1 24 z329) (.int 0)
abbrev z343 : E := .o2 .eql (.var 11) (.int 3)
abbrev z344 : E := .o2 (.arith .add .i64) (.var 13) (.int 1)
abbrev z345 : E := .o1 .not (.o2 .lss z344 (.f1 2 (.var 2)))
abbrev z346 : E := .f4 1 (.int 1) (.var 10) (.int 0) (.o2 (.arith .add .i64) z337 (.int 1))
abbrev z347 : E := .f4 12 z335 z327 (.var 14) z346
abbrev z348 : E := .o2 .eql (.var 11) (.int 4)
abbrev z349 : E := .f4 12 z335 z321 (.var 12) (.o1 (.conv .u64) z344)
abbrev z350 : E := .f3 2 (.var 1) z321 (.var 12)
abbrev z351 : E := .o2 .eql (.var 11) (.int 5)
abbrev z3p52 : Path := (z334, true) :: [(z326, false)]
abbrev z3p53 : Path := (z333, true) :: z3p52
abbrev z3p54 : Path := (z332, true) :: z3p53
abbrev z3p55 : Path := (z334, false) :: [(z326, false)]
abbrev z3p56 : Path := (z341, true) :: z3p55
abbrev z3p57 : Path := (z341, false) :: z3p55
abbrev z3p58 : Path := (z343, true) :: z3p57
abbrev z3p59 : Path := (z343, false) :: z3p57
abbrev z3p60 : Path := (z348, true) :: z3p59
abbrev z3p61 : Path := (z348, false) :: z3p59
abbrev z3p62 : Path := (z351, true) :: z3p61
theorem mPlace_ok : mPlace.t.ok SG prog 231 := by
  refine MSpec.ok tm2_ok mPlace rfl (by kernel_rfl) (
  allS_cons ⟨[⟨true, .one (.c (.bool (.bool false))), [(2, .res 0 z322), (1, .cells (ch (cell1 placeS 10 3) [(1, .int .i64 (.int 3)), (2, .int .u64 z323), (3, .int .i64 (.int 0))]))], 52, [(z325, true), (z326, true)]⟩,
    ⟨true, .one (.c (.bool (.bool false))), [(2, .res 0 z322), (1, .cells (ch (cell1 placeS 10 3) [(1, .int .i64 (.int 1)), (2, .int .u64 z323), (3, .int .i64 z324)]))], 52, [(z325, false), (z326, true)]⟩,
    ⟨true, .one (.c (.bool (.bool false))), [(2, .res 0 z328), (1, .cells (ch (cell1 placeS 10 3) [(1, .int .i64 (.int 3)), (3, .int .i64 (.int 0)), (4, .int .u64 z329)]))], 81, (z331, true) :: z3p54⟩,
    ⟨true, .one (.c (.bool (.bool false))), [(2, .res 0 z328), (1, .cells (ch (cell1 placeS 10 3) [(1, .int .i64 (.int 2)), (4, .int .u64 z329)]))], 81, (z331, false) :: z3p54⟩,
    ⟨true, .one (.c (.bool (.bool false))), [(2, .res 0 z328), (1, .cells (ch (cell1 placeS 10 3) [(1, .int .i64 (.int 3)), (3, .int .i64 (.int 0)), (4, .int .u64 z329)]))], 81, (z332, false) :: z3p53⟩,
    ⟨true, .one (.c (.bool (.bool false))), [(2, .res 0 z328), (1, .cells (ch (cell1 placeS 10 3) [(1, .int .i64 (.int 3)), (3, .int .i64 (.int 0)), (4, .int .u64 z329)]))], 81, (z333, false) :: z3p52⟩,
    ⟨true, .one (.c (.bool (.bool true))), [(2, .res 0 z338), (1, .cells (ch (cell1 placeS 10 3) [(1, .int .i64 (.int 0)), (5, .int .i64 z339), (6, xi 13), (7, .bool (.bool true))]))], 91, (z340, true) :: z3p56⟩,
    ⟨true, .one (.c (.bool (.bool false))), [(2, .res 0 z338), (1, .cells (ch (cell1 placeS 10 3) [(1, .int .i64 (.int 0))]))], 69, (z340, false) :: z3p56⟩,
    ⟨true, .one (.c (.bool (.bool false))), [(2, .res 0 z328), (1, .cells (ch (cell1 placeS 10 3) [(1, .int .i64 (.int 4)), (4, .int .u64 z329)]))], 54, (z342, true) :: z3p58⟩,
    ⟨true, .one (.c (.bool z345)), [(2, .res 0 z328), (1, .cells (ch (cell1 placeS 10 3) [(1, .int .i64 (.int 3)), (3, .int .i64 z344), (4, .int .u64 z329)]))], 64, (z342, false) :: z3p58⟩,
    ⟨true, .one (.c (.bool (.bool false))), [(2, .res 0 z347), (1, .cells (ch (cell1 placeS 10 3) [(1, .int .i64 (.int 5))]))], 71, (z340, true) :: z3p60⟩,
    ⟨true, .one (.c (.bool z345)), [(2, .res 0 z347), (1, .cells (ch (cell1 placeS 10 3) [(1, .int .i64 (.int 3)), (3, .int .i64 z344)]))], 81, (z340, false) :: z3p60⟩,
    ⟨true, .one (.c (.bool (.bool false))), [(2, .res 0 z349), (1, .cells (ch (cell1 placeS 10 3) [(1, .int .i64 (.int 0))]))], 58, (z350, true) :: z3p62⟩,
    ⟨true, .one (.c (.bool (.bool false))), [(2, .res 0 z349), (1, .cells (ch (cell1 placeS 10 3) [(1, .int .i64 (.int 6))]))], 58, (z350, false) :: z3p62⟩,
    ⟨true, .one (.c (.bool (.bool false))), [(2, .res 0 (.f4 12 z335 z327 z346 (.f4 1 (.int 0) (.int 0) (.int 0) (.o2 (.arith .add .i64) z337 (.int 2))))), (1, .cells (ch (cell1 placeS 10 3) [(1, .int .i64 (.int 0))]))], 67, (z351, false) :: z3p61⟩], by as_aux_lemma => kernel_rfl,
    allC_cons (way1 placeS (by simp [kinds]) (fun j => match j with | 1 => (.int 3) | 2 => z323 | 3 => (.int 0) | j => .var (j + 10)) (fun j => match j with | 1 => 1 | _ => 0) (by kernel_rfl) rfl rfl rfl (by kernel_rfl) ?_) <|
    allC_cons (way1 placeS (by simp [kinds]) (fun j => match j with | 1 => (.int 1) | 2 => z323 | 3 => z324 | j => .var (j + 10)) (fun j => match j with | 1 => 1 | _ => 0) (by kernel_rfl) rfl rfl rfl (by kernel_rfl) ?_) <|
    allC_cons (way1 placeS (by simp [kinds]) (fun j => match j with | 1 => (.int 3) | 3 => (.int 0) | 4 => z329 | j => .var (j + 10)) (fun j => match j with | 1 => 1 | _ => 0) (by kernel_rfl) rfl rfl rfl (by kernel_rfl) ?_) <|
    allC_cons (way1 placeS (by simp [kinds]) (fun j => match j with | 1 => (.int 2) | 4 => z329 | j => .var (j + 10)) (fun j => match j with | 1 => 1 | _ => 0) (by kernel_rfl) rfl rfl rfl (by kernel_rfl) ?_) <|
    allC_cons (way1 placeS (by simp [kinds]) (fun j => match j with | 1 => (.int 3) | 3 => (.int 0) | 4 => z329 | j => .var (j + 10)) (fun j => match j with | 1 => 1 | _ => 0) (by kernel_rfl) rfl rfl rfl (by kernel_rfl) ?_) <|
    allC_cons (way1 placeS (by simp [kinds]) (fun j => match j with | 1 => (.int 3) | 3 => (.int 0) | 4 => z329 | j => .var (j + 10)) (fun j => match j with | 1 => 1 | _ => 0) (by kernel_rfl) rfl rfl rfl (by kernel_rfl) ?_) <|
    allC_cons (way1 placeS (by simp [kinds]) (fun j => match j with | 1 => (.int 0) | 5 => z339 | 6 => (.var 13) | 7 => (.bool true) | j => .var (j + 10)) (fun j => match j with | 1 => 1 | _ => 0) (by kernel_rfl) rfl rfl rfl (by kernel_rfl) ?_) <|
    allC_cons (way1 placeS (by simp [kinds]) (fun j => match j with | 1 => (.int 0) | j => .var (j + 10)) (fun j => match j with | 1 => 1 | _ => 0) (by kernel_rfl) rfl rfl rfl (by kernel_rfl) ?_) <|
    allC_cons (way1 placeS (by simp [kinds]) (fun j => match j with | 1 => (.int 4) | 4 => z329 | j => .var (j + 10)) (fun j => match j with | 1 => 1 | _ => 0) (by kernel_rfl) rfl rfl rfl (by kernel_rfl) ?_) <|
    allC_cons (way1 placeS (by simp [kinds]) (fun j => match j with | 1 => (.int 3) | 3 => z344 | 4 => z329 | j => .var (j + 10)) (fun j => match j with | 1 => 1 | _ => 0) (by kernel_rfl) rfl rfl rfl (by kernel_rfl) ?_) <|
    allC_cons (way1 placeS (by simp [kinds]) (fun j => match j with | 1 => (.int 5) | j => .var (j + 10)) (fun j => match j with | 1 => 1 | _ => 0) (by kernel_rfl) rfl rfl rfl (by kernel_rfl) ?_) <|
    allC_cons (way1 placeS (by simp [kinds]) (fun j => match j with | 1 => (.int 3) | 3 => z344 | j => .var (j + 10)) (fun j => match j with | 1 => 1 | _ => 0) (by kernel_rfl) rfl rfl rfl (by kernel_rfl) ?_) <|
    allC_cons (way1 placeS (by simp [kinds]) (fun j => match j with | 1 => (.int 0) | j => .var (j + 10)) (fun j => match j with | 1 => 1 | _ => 0) (by kernel_rfl) rfl rfl rfl (by kernel_rfl) ?_) <|
    allC_cons (way1 placeS (by simp [kinds]) (fun j => match j with | 1 => (.int 6) | j => .var (j + 10)) (fun j => match j with | 1 => 1 | _ => 0) (by kernel_rfl) rfl rfl rfl (by kernel_rfl) ?_) <|
    allC_cons (way1 placeS (by simp [kinds]) (fun j => match j with | 1 => (.int 0) | j => .var (j + 10)) (fun j => match j with | 1 => 1 | _ => 0) (by kernel_rfl) rfl rfl rfl (by kernel_rfl) ?_) <|
    allC_nil _⟩ <|
  allS_nil _)
  all_goals as_aux_lemma =>
    intro n hp hg hi
    simp only [pt_nil, pt_cons, E.den, sg_f1, sg_f2, sg_f3, sg_f4, f1_0, f1_1, f1_2, f1_3, f1_4, f1_5, f1_6, f1_24, f1_25, f1_26, f1_27, f1_39, f2_1, f2_2, f2_20, f2_22, f3_2, f3_3, f4_1, f4_12, f4_20, f4_21, f4_22, O1.ap, O3.ap, ap_arith, ap_bits, ap_div, ap_shift, ap_eql, ap_lss, ap_beq, ap_min, ap_max, ap_nthI, ap_nthB, ap_inI, ap_inB, G.toInt_int, G.toBool_bool, G.toInts_ints, ltI_t, ltI_f, inN_t, inN_f, and_true, Nat.zero_add, Nat.reduceAdd, arith_add, arith_sub, arith_mul, i64, u64, cas_by, openAt, pinAt, gplace_u, ggive_u, ghelp_u, galloc_u, gdrop_u, gaccess_u, gact_u, glst_u, gmem_u, gactx_u, gquad_u, Bool.not_eq_true', Bool.not_eq_false', beq_iff_eq, beq_eq_false_iff_ne, ne_eq] at hp
    simp only [mPlace, stepSp, e4, giveS, helpS, placeS, sg_f1, sg_f2, sg_f3, sg_f4, f1_0, f1_1, f1_2, f1_3, f1_4, f1_5, f1_6, f1_24, f1_25, f1_26, f1_27, f1_39, f2_1, f2_2, f2_20, f2_22, f3_2, f3_3, f4_1, f4_12, f4_20, f4_21, f4_22, O1.ap, O3.ap, ap_arith, ap_bits, ap_div, ap_shift, ap_eql, ap_lss, ap_beq, ap_min, ap_max, ap_nthI, ap_nthB, ap_inI, ap_inB, G.toInt_int, G.toBool_bool, G.toInts_ints, ltI_t, ltI_f, inN_t, inN_f, and_true, Nat.zero_add, Nat.reduceAdd, arith_add, arith_sub, arith_mul, i64, u64, cas_by, openAt, pinAt] at hg hi
    first
    | (simp only [mPlace, stepSp, e4, giveS, helpS, placeS, xi, xu, xb, SV.den, S2.den, S1.den, cellsDen, List.map, iE, uE, bE, E.den, sg_f1, sg_f2, sg_f3, sg_f4, f1_0, f1_1, f1_2, f1_3, f1_4, f1_5, f1_6, f1_24, f1_25, f1_26, f1_27, f1_39, f2_1, f2_2, f2_20, f2_22, f3_2, f3_3, f4_1, f4_12, f4_20, f4_21, f4_22, O1.ap, O3.ap, ap_arith, ap_bits, ap_div, ap_shift, ap_eql, ap_lss, ap_beq, ap_min, ap_max, ap_nthI, ap_nthB, ap_inI, ap_inB, G.toInt_int, G.toBool_bool, G.toInts_ints, ltI_t, ltI_f, inN_t, inN_f, and_true, Nat.zero_add, Nat.reduceAdd, arith_add, arith_sub, arith_mul, i64, u64, cas_by, openAt, pinAt, hg, gplace_u, ggive_u, ghelp_u, galloc_u, gdrop_u, gaccess_u, gact_u, glst_u, gmem_u, placeStep, placeOn, freshW, hp, reduceIte, if_true, if_false, not_true, not_false_iff, Classical.not_not, true_and, and_true, false_and, and_false, true_or, or_true, false_or, or_false, Bool.not_true, Bool.not_false, Bool.and_true, Bool.and_false, Bool.false_and, Bool.true_and, decide_true, decide_false, Int.reduceEq, Bool.false_eq_true, Bool.true_eq_false]; done)
    | (simp only [mPlace, stepSp, e4, giveS, helpS, placeS, xi, xu, xb, SV.den, S2.den, S1.den, cellsDen, List.map, iE, uE, bE, E.den, sg_f1, sg_f2, sg_f3, sg_f4, f1_0, f1_1, f1_2, f1_3, f1_4, f1_5, f1_6, f1_24, f1_25, f1_26, f1_27, f1_39, f2_1, f2_2, f2_20, f2_22, f3_2, f3_3, f4_1, f4_12, f4_20, f4_21, f4_22, O1.ap, O3.ap, ap_arith, ap_bits, ap_div, ap_shift, ap_eql, ap_lss, ap_beq, ap_min, ap_max, ap_nthI, ap_nthB, ap_inI, ap_inB, G.toInt_int, G.toBool_bool, G.toInts_ints, ltI_t, ltI_f, inN_t, inN_f, and_true, Nat.zero_add, Nat.reduceAdd, arith_add, arith_sub, arith_mul, i64, u64, cas_by, openAt, pinAt, hg, gplace_u, ggive_u, ghelp_u, galloc_u, gdrop_u, gaccess_u, gact_u, glst_u, gmem_u, placeStep, placeOn, freshW]; simp [hp]; done)
    | (simp only [mPlace, stepSp, e4, giveS, helpS, placeS, xi, xu, xb, SV.den, S2.den, S1.den, cellsDen, List.map, iE, uE, bE, E.den, sg_f1, sg_f2, sg_f3, sg_f4, f1_0, f1_1, f1_2, f1_3, f1_4, f1_5, f1_6, f1_24, f1_25, f1_26, f1_27, f1_39, f2_1, f2_2, f2_20, f2_22, f3_2, f3_3, f4_1, f4_12, f4_20, f4_21, f4_22, O1.ap, O3.ap, ap_arith, ap_bits, ap_div, ap_shift, ap_eql, ap_lss, ap_beq, ap_min, ap_max, ap_nthI, ap_nthB, ap_inI, ap_inB, G.toInt_int, G.toBool_bool, G.toInts_ints, ltI_t, ltI_f, inN_t, inN_f, and_true, Nat.zero_add, Nat.reduceAdd, arith_add, arith_sub, arith_mul, i64, u64, cas_by, openAt, pinAt, hg, gplace_u, ggive_u, ghelp_u, galloc_u, gdrop_u, gaccess_u, gact_u, glst_u, gmem_u, placeStep, placeOn, freshW]; simp_all; done)
    | (exfalso; omega)
    | skip

end Go.Fl
