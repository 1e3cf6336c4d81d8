/- Templates, level 8, shown. -/
import Derived.Test.YtdkjpjiljplahaaGreatMg
namespace Go.Fl
open Go Go.Sx Go.Proofs
variable [ExtF]
set_option linter.unusedSimpArgs false
set_option maxRecDepth 100000
set_option maxHeartbeats 100000000

theorem mListDone_ok : mListDone.t.ok SG prog 37 := by
  refine MSpec.ok tm7_ok mListDone rfl (by kernel_rfl) (
  allS_cons ⟨[⟨true, .one (.agg [xi 19, xu 20, xi 21, xi 22]), [(1, .cells (ch (cell1 (listS false) 10 2) []))], 41, []⟩], by as_aux_lemma => kernel_rfl,
    allC_cons (way0 (listS false) (by simp [kinds]) (fun j => match j with  | j => .var (j + 10)) (fun j => match j with | 1 => 1 | _ => 0) (by kernel_rfl) rfl rfl ?_) <|
    allC_nil _⟩ <|
  allS_cons ⟨[⟨true, .one (.agg [xi 19, xu 20, xi 21, xi 22]), [(4, .res 7 (.var 24)), (1, .cells (ch (cell1 (listS true) 10 2) []))], 41, []⟩], by as_aux_lemma => kernel_rfl,
    allC_cons (way0 (listS true) (by simp [kinds]) (fun j => match j with  | j => .var (j + 10)) (fun j => match j with | 2 => 4 | 1 => 1 | _ => 0) (by kernel_rfl) rfl rfl ?_) <|
    allC_nil _⟩ <|
  allS_nil _)
  all_goals as_aux_lemma =>
    intro n hp hg hi
    simp only [pt_nil, pt_cons, E.den, sg_f1, sg_f2, sg_f3, sg_f4, f1_76, f1_77, f1_78, f1_79, O1.ap, O3.ap, ap_arith, ap_bits, ap_div, ap_shift, ap_eql, ap_lss, ap_beq, ap_min, ap_max, ap_nthI, ap_nthB, ap_inI, ap_inB, G.toInt_int, G.toBool_bool, G.toInts_ints, ltI_t, ltI_f, inN_t, inN_f, and_true, Nat.zero_add, Nat.reduceAdd, arith_add, arith_sub, arith_mul, i64, u64, cas_by, openAt, pinAt, gplace_u, ggive_u, ghelp_u, galloc_u, gdrop_u, gaccess_u, gact_u, glst_u, gmem_u, gactx_u, gquad_u, Bool.not_eq_true', Bool.not_eq_false', beq_iff_eq, beq_eq_false_iff_ne, ne_eq] at hp
    simp only [mListDone, stepSp, doneSp, e4, listS, optG, optH, optP, wishE, sg_f1, sg_f2, sg_f3, sg_f4, f1_76, f1_77, f1_78, f1_79, O1.ap, O3.ap, ap_arith, ap_bits, ap_div, ap_shift, ap_eql, ap_lss, ap_beq, ap_min, ap_max, ap_nthI, ap_nthB, ap_inI, ap_inB, G.toInt_int, G.toBool_bool, G.toInts_ints, ltI_t, ltI_f, inN_t, inN_f, and_true, Nat.zero_add, Nat.reduceAdd, arith_add, arith_sub, arith_mul, i64, u64, cas_by, openAt, pinAt] at hg hi
    first
    | (simp only [mListDone, stepSp, doneSp, e4, listS, optG, optH, optP, wishE, xi, xu, xb, SV.den, S2.den, S1.den, cellsDen, List.map, iE, uE, bE, E.den, sg_f1, sg_f2, sg_f3, sg_f4, f1_76, f1_77, f1_78, f1_79, O1.ap, O3.ap, ap_arith, ap_bits, ap_div, ap_shift, ap_eql, ap_lss, ap_beq, ap_min, ap_max, ap_nthI, ap_nthB, ap_inI, ap_inB, G.toInt_int, G.toBool_bool, G.toInts_ints, ltI_t, ltI_f, inN_t, inN_f, and_true, Nat.zero_add, Nat.reduceAdd, arith_add, arith_sub, arith_mul, i64, u64, cas_by, openAt, pinAt, hg, gplace_u, ggive_u, ghelp_u, galloc_u, gdrop_u, gaccess_u, gact_u, glst_u, gmem_u, listStep, listWant, listTold, listLooked, listUnlinked, listJoined, listRemoved, listAt, listAbsent, listPresent, listAgain, listEnd, ibits, gactx_u, gquad_u, hp, reduceIte, if_true, if_false, not_true, not_false_iff, Classical.not_not, true_and, and_true, false_and, and_false, true_or, or_true, false_or, or_false, Bool.not_true, Bool.not_false, Bool.and_true, Bool.and_false, Bool.false_and, Bool.true_and, decide_true, decide_false, Int.reduceEq, Bool.false_eq_true, Bool.true_eq_false]; done)
    | (simp only [mListDone, stepSp, doneSp, e4, listS, optG, optH, optP, wishE, xi, xu, xb, SV.den, S2.den, S1.den, cellsDen, List.map, iE, uE, bE, E.den, sg_f1, sg_f2, sg_f3, sg_f4, f1_76, f1_77, f1_78, f1_79, O1.ap, O3.ap, ap_arith, ap_bits, ap_div, ap_shift, ap_eql, ap_lss, ap_beq, ap_min, ap_max, ap_nthI, ap_nthB, ap_inI, ap_inB, G.toInt_int, G.toBool_bool, G.toInts_ints, ltI_t, ltI_f, inN_t, inN_f, and_true, Nat.zero_add, Nat.reduceAdd, arith_add, arith_sub, arith_mul, i64, u64, cas_by, openAt, pinAt, hg, gplace_u, ggive_u, ghelp_u, galloc_u, gdrop_u, gaccess_u, gact_u, glst_u, gmem_u, listStep, listWant, listTold, listLooked, listUnlinked, listJoined, listRemoved, listAt, listAbsent, listPresent, listAgain, listEnd, ibits, gactx_u, gquad_u]; simp [hp]; done)
    | (simp only [mListDone, stepSp, doneSp, e4, listS, optG, optH, optP, wishE, xi, xu, xb, SV.den, S2.den, S1.den, cellsDen, List.map, iE, uE, bE, E.den, sg_f1, sg_f2, sg_f3, sg_f4, f1_76, f1_77, f1_78, f1_79, O1.ap, O3.ap, ap_arith, ap_bits, ap_div, ap_shift, ap_eql, ap_lss, ap_beq, ap_min, ap_max, ap_nthI, ap_nthB, ap_inI, ap_inB, G.toInt_int, G.toBool_bool, G.toInts_ints, ltI_t, ltI_f, inN_t, inN_f, and_true, Nat.zero_add, Nat.reduceAdd, arith_add, arith_sub, arith_mul, i64, u64, cas_by, openAt, pinAt, hg, gplace_u, ggive_u, ghelp_u, galloc_u, gdrop_u, gaccess_u, gact_u, glst_u, gmem_u, listStep, listWant, listTold, listLooked, listUnlinked, listJoined, listRemoved, listAt, listAbsent, listPresent, listAgain, listEnd, ibits, gactx_u, gquad_u]; simp_all; done)
    | (exfalso; omega)
    | skip

end Go.Fl

/- Templates, level 8, shown. -/
namespace Go.Fl
open Go Go.Sx Go.Proofs
variable [ExtF]
set_option linter.unusedSimpArgs false
set_option maxRecDepth 100000
set_option maxHeartbeats 100000000

abbrev z8List10 : E := .f4 40 (.var 24) (.var 1) (.var 2) (.var 3)
abbrev z8List11 : E := .f4 41 (.var 24) (.var 1) (.var 2) (.var 3)
abbrev z8List12 : E := .f1 74 z8List10
abbrev z8List13 : E := .f1 80 z8List12
abbrev z8List14 : E := .f1 75 z8List10
abbrev z8List15 : E := .o2 .eql (.var 17) (.int 0)
abbrev z8List16 : E := .o2 .eql (.var 10) (.int 2)
abbrev z8List17 : E := .o2 .eql z8List13 (.int 0)
abbrev z8List18 : E := .f1 72 z8List10
abbrev z8List19 : E := .o2 .eql z8List18 (.int 0)
abbrev z8List110 : E := .o2 .eql (.var 13) (.int 0)
abbrev z8List111 : E := .f4 42 (.var 24) (.var 1) (.var 2) (.var 3)
abbrev z8List112 : E := .f1 81 z8List12
abbrev z8List113 : E := .o2 .eql (.var 13) (.int 1)
abbrev z8List114 : E := .f1 80 (.var 16)
abbrev z8List115 : E := .o2 .eql z8List114 (.int 0)
abbrev z8List116 : E := .o2 .lss z8List12 (.var 11)
abbrev z8List117 : E := .o2 .eql (.var 13) (.int 2)
abbrev z8List118 : E := .o2 .eql (.var 10) (.int 3)
abbrev z8List119 : E := .o2 .eql z8List12 (.var 11)
abbrev z8List120 : E := .o2 .eql (.var 13) (.int 3)
abbrev z8List121 : E := .f1 80 (.o2 (.bits .and .i64) (.var 16) (.int 4294967295))
abbrev z8List122 : E := .o2 .eql z8List121 (.int 0)
abbrev z8List123 : E := .o2 .eql (.var 13) (.int 4)
abbrev z8List124 : E := .f1 73 z8List10
abbrev z8List125 : E := .o2 .eql (.var 13) (.int 5)
abbrev z8List126 : E := .o2 .eql (.var 13) (.int 6)
abbrev z8List127 : E := .o2 .eql (.var 13) (.int 7)
abbrev z8List128 : E := .o2 .eql (.var 13) (.int 8)
abbrev z8List129 : E := .o2 .eql (.var 13) (.int 9)
abbrev z8List130 : E := .o2 .eql (.var 13) (.int 10)
abbrev z8List1p31 : Path := [(z8List111, true)]
abbrev z8List1p32 : Path := (z8List110, true) :: z8List1p31
abbrev z8List1p33 : Path := (z8List19, true) :: z8List1p32
abbrev z8List1p34 : Path := (z8List17, true) :: z8List1p33
abbrev z8List1p35 : Path := (z8List16, true) :: z8List1p34
abbrev z8List1p36 : Path := (z8List16, false) :: z8List1p34
abbrev z8List1p37 : Path := (z8List19, false) :: z8List1p32
abbrev z8List1p38 : Path := (z8List110, false) :: z8List1p31
abbrev z8List1p39 : Path := (z8List113, true) :: z8List1p38
abbrev z8List1p40 : Path := (z8List19, true) :: z8List1p39
abbrev z8List1p41 : Path := (z8List113, false) :: z8List1p38
abbrev z8List1p42 : Path := (z8List117, true) :: z8List1p41
abbrev z8List1p43 : Path := (z8List19, true) :: z8List1p42
abbrev z8List1p44 : Path := (z8List116, true) :: z8List1p43
abbrev z8List1p45 : Path := (z8List115, true) :: z8List1p44
abbrev z8List1p46 : Path := (z8List16, true) :: z8List1p45
abbrev z8List1p47 : Path := (z8List16, false) :: z8List1p45
abbrev z8List1p48 : Path := (z8List116, false) :: z8List1p43
abbrev z8List1p49 : Path := (z8List119, true) :: z8List1p48
abbrev z8List1p50 : Path := (z8List118, false) :: z8List1p49
abbrev z8List1p51 : Path := (z8List16, true) :: z8List1p50
abbrev z8List1p52 : Path := (z8List16, false) :: z8List1p50
abbrev z8List1p53 : Path := (z8List119, false) :: z8List1p48
abbrev z8List1p54 : Path := (z8List16, true) :: z8List1p53
abbrev z8List1p55 : Path := (z8List16, false) :: z8List1p53
abbrev z8List1p56 : Path := (z8List117, false) :: z8List1p41
abbrev z8List1p57 : Path := (z8List120, true) :: z8List1p56
abbrev z8List1p58 : Path := (z8List120, false) :: z8List1p56
abbrev z8List1p59 : Path := (z8List123, true) :: z8List1p58
abbrev z8List1p60 : Path := (z8List122, true) :: z8List1p59
abbrev z8List1p61 : Path := (z8List16, true) :: z8List1p60
abbrev z8List1p62 : Path := (z8List16, false) :: z8List1p60
abbrev z8List1p63 : Path := (z8List123, false) :: z8List1p58
abbrev z8List1p64 : Path := (z8List125, true) :: z8List1p63
abbrev z8List1p65 : Path := (z8List19, false) :: z8List1p64
abbrev z8List1p66 : Path := (z8List125, false) :: z8List1p63
abbrev z8List1p67 : Path := (z8List126, false) :: z8List1p66
abbrev z8List1p68 : Path := (z8List127, false) :: z8List1p67
abbrev z8List1p69 : Path := (z8List128, true) :: z8List1p68
abbrev z8List1p70 : Path := (z8List128, false) :: z8List1p68
abbrev z8List1p71 : Path := (z8List129, true) :: z8List1p70
abbrev z8List1p72 : Path := (z8List129, false) :: z8List1p70
theorem mList_c1 : CaseOK tm7 mList 36 (listS true) := by
  refine (
  ⟨[⟨true, .one (.c (.bool (.bool false))), [(5, .res 7 z8List10), (2, .res 0 z8List11), (1, .cells (ch (cell1 (listS true) 10 3) [(3, .int .i64 (.int 5)), (4, .nilp), (5, xu 12), (6, .int .u64 z8List13), (9, .int .i64 z8List14)]))], 61, (z8List15, true) :: z8List1p35⟩,
    ⟨true, .one (.c (.bool (.bool false))), [(5, .res 7 z8List10), (2, .res 0 z8List11), (1, .cells (ch (cell1 (listS true) 10 3) [(3, .int .i64 (.int 7)), (4, .nilp), (5, xu 12), (6, .int .u64 z8List13), (9, .int .i64 z8List14)]))], 61, (z8List15, false) :: z8List1p35⟩,
    ⟨true, .one (.c (.bool (.bool true))), [(5, .res 7 z8List10), (2, .res 0 z8List11), (1, .cells (ch (cell1 (listS true) 10 3) [(4, .nilp), (5, xu 12), (6, .int .u64 z8List13), (9, .int .i64 z8List14), (10, .int .i64 (.int 0)), (11, .int .u64 (.int 0)), (12, .int .i64 (.int 0)), (13, .int .i64 z8List14)]))], 61, (z8List15, true) :: z8List1p36⟩,
    ⟨true, .one (.c (.bool (.bool false))), [(5, .res 7 z8List10), (2, .res 0 z8List11), (1, .cells (ch (cell1 (listS true) 10 3) [(3, .int .i64 (.int 11)), (4, .nilp), (5, xu 12), (6, .int .u64 z8List13), (9, .int .i64 z8List14), (10, .int .i64 (.int 0)), (11, .int .u64 (.int 0)), (12, .int .i64 (.int 0)), (13, .int .i64 z8List14)]))], 61, (z8List15, false) :: z8List1p36⟩,
    ⟨true, .one (.c (.bool (.bool false))), [(5, .res 7 z8List10), (2, .res 0 z8List11), (1, .cells (ch (cell1 (listS true) 10 3) [(3, .int .i64 (.int 1)), (4, .nilp), (5, xu 12), (6, .int .u64 z8List13), (9, .int .i64 z8List14)]))], 61, (z8List17, false) :: z8List1p33⟩,
    ⟨true, .one (.c (.bool (.bool true))), [(5, .res 7 z8List10), (2, .res 0 z8List11), (1, .cells (ch (cell1 (listS true) 10 3) [(4, .nilp), (10, .int .i64 z8List18), (11, .int .u64 (.int 0)), (12, .int .i64 (.int 0)), (13, .int .i64 z8List14)]))], 50, (z8List15, true) :: z8List1p37⟩,
    ⟨true, .one (.c (.bool (.bool false))), [(5, .res 7 z8List10), (2, .res 0 z8List11), (1, .cells (ch (cell1 (listS true) 10 3) [(3, .int .i64 (.int 11)), (4, .nilp), (10, .int .i64 z8List18), (11, .int .u64 (.int 0)), (12, .int .i64 (.int 0)), (13, .int .i64 z8List14)]))], 50, (z8List15, false) :: z8List1p37⟩,
    ⟨true, .one (.c (.bool (.bool false))), [(5, .res 7 z8List10), (2, .res 0 z8List11), (1, .cells (ch (cell1 (listS true) 10 3) [(3, .int .i64 (.int 3)), (4, .nilp), (7, .int .i64 z8List12)]))], 50, (z8List112, true) :: z8List1p40⟩,
    ⟨true, .one (.c (.bool (.bool false))), [(5, .res 7 z8List10), (2, .res 0 z8List11), (1, .cells (ch (cell1 (listS true) 10 3) [(3, .int .i64 (.int 2)), (4, .nilp), (7, .int .i64 z8List12), (13, .int .i64 z8List14)]))], 50, (z8List112, false) :: z8List1p40⟩,
    ⟨true, .one (.c (.bool (.bool false))), [(5, .res 7 z8List10), (2, .res 0 z8List11), (1, .cells (ch (cell1 (listS true) 10 3) [(3, .int .i64 (.int 0)), (4, .nilp)]))], 50, (z8List19, false) :: z8List1p39⟩,
    ⟨true, .one (.c (.bool (.bool false))), [(5, .res 7 z8List10), (2, .res 0 z8List11), (1, .cells (ch (cell1 (listS true) 10 3) [(3, .int .i64 (.int 5)), (4, .nilp), (5, xu 15), (6, .int .u64 z8List114), (9, xi 22)]))], 74, (z8List15, true) :: z8List1p46⟩,
    ⟨true, .one (.c (.bool (.bool false))), [(5, .res 7 z8List10), (2, .res 0 z8List11), (1, .cells (ch (cell1 (listS true) 10 3) [(3, .int .i64 (.int 7)), (4, .nilp), (5, xu 15), (6, .int .u64 z8List114), (9, xi 22)]))], 74, (z8List15, false) :: z8List1p46⟩,
    ⟨true, .one (.c (.bool (.bool true))), [(5, .res 7 z8List10), (2, .res 0 z8List11), (1, .cells (ch (cell1 (listS true) 10 3) [(4, .nilp), (5, xu 15), (6, .int .u64 z8List114), (9, xi 22), (10, .int .i64 (.int 0)), (11, .int .u64 (.int 0)), (12, .int .i64 (.int 0))]))], 74, (z8List15, true) :: z8List1p47⟩,
    ⟨true, .one (.c (.bool (.bool false))), [(5, .res 7 z8List10), (2, .res 0 z8List11), (1, .cells (ch (cell1 (listS true) 10 3) [(3, .int .i64 (.int 11)), (4, .nilp), (5, xu 15), (6, .int .u64 z8List114), (9, xi 22), (10, .int .i64 (.int 0)), (11, .int .u64 (.int 0)), (12, .int .i64 (.int 0))]))], 74, (z8List15, false) :: z8List1p47⟩,
    ⟨true, .one (.c (.bool (.bool false))), [(5, .res 7 z8List10), (2, .res 0 z8List11), (1, .cells (ch (cell1 (listS true) 10 3) [(3, .int .i64 (.int 1)), (4, .nilp), (5, xu 15), (6, .int .u64 z8List114), (9, xi 22)]))], 74, (z8List115, false) :: z8List1p44⟩,
    ⟨true, .one (.c (.bool (.bool false))), [(5, .res 7 z8List10), (2, .res 0 z8List11), (1, .cells (ch (cell1 (listS true) 10 3) [(3, .int .i64 (.int 9)), (4, .nilp)]))], 66, (z8List118, true) :: z8List1p49⟩,
    ⟨true, .one (.c (.bool (.bool true))), [(5, .res 7 z8List10), (2, .res 0 z8List11), (1, .cells (ch (cell1 (listS true) 10 3) [(4, .nilp), (10, .int .i64 (.int 0)), (11, .int .u64 (.int 0)), (12, .int .i64 (.int 0))]))], 66, (z8List15, true) :: z8List1p51⟩,
    ⟨true, .one (.c (.bool (.bool false))), [(5, .res 7 z8List10), (2, .res 0 z8List11), (1, .cells (ch (cell1 (listS true) 10 3) [(3, .int .i64 (.int 11)), (4, .nilp), (10, .int .i64 (.int 0)), (11, .int .u64 (.int 0)), (12, .int .i64 (.int 0))]))], 66, (z8List15, false) :: z8List1p51⟩,
    ⟨true, .one (.c (.bool (.bool true))), [(5, .res 7 z8List10), (2, .res 0 z8List11), (1, .cells (ch (cell1 (listS true) 10 3) [(4, .nilp), (10, .int .i64 (.int 0)), (11, .int .u64 (.int 0)), (12, .int .i64 (.int 1))]))], 66, (z8List15, true) :: z8List1p52⟩,
    ⟨true, .one (.c (.bool (.bool false))), [(5, .res 7 z8List10), (2, .res 0 z8List11), (1, .cells (ch (cell1 (listS true) 10 3) [(3, .int .i64 (.int 11)), (4, .nilp), (10, .int .i64 (.int 0)), (11, .int .u64 (.int 0)), (12, .int .i64 (.int 1))]))], 66, (z8List15, false) :: z8List1p52⟩,
    ⟨true, .one (.c (.bool (.bool false))), [(5, .res 7 z8List10), (2, .res 0 z8List11), (1, .cells (ch (cell1 (listS true) 10 3) [(3, .int .i64 (.int 5)), (4, .nilp)]))], 66, (z8List15, true) :: z8List1p54⟩,
    ⟨true, .one (.c (.bool (.bool false))), [(5, .res 7 z8List10), (2, .res 0 z8List11), (1, .cells (ch (cell1 (listS true) 10 3) [(3, .int .i64 (.int 7)), (4, .nilp)]))], 66, (z8List15, false) :: z8List1p54⟩,
    ⟨true, .one (.c (.bool (.bool true))), [(5, .res 7 z8List10), (2, .res 0 z8List11), (1, .cells (ch (cell1 (listS true) 10 3) [(4, .nilp), (10, .int .i64 (.int 0)), (11, .int .u64 (.int 0)), (12, .int .i64 (.int 0)), (13, xi 18)]))], 66, (z8List15, true) :: z8List1p55⟩,
    ⟨true, .one (.c (.bool (.bool false))), [(5, .res 7 z8List10), (2, .res 0 z8List11), (1, .cells (ch (cell1 (listS true) 10 3) [(3, .int .i64 (.int 11)), (4, .nilp), (10, .int .i64 (.int 0)), (11, .int .u64 (.int 0)), (12, .int .i64 (.int 0)), (13, xi 18)]))], 66, (z8List15, false) :: z8List1p55⟩,
    ⟨true, .one (.c (.bool (.bool false))), [(5, .res 7 z8List10), (2, .res 0 z8List11), (1, .cells (ch (cell1 (listS true) 10 3) [(3, .int .i64 (.int 0)), (4, .nilp)]))], 50, (z8List19, false) :: z8List1p42⟩,
    ⟨true, .one (.c (.bool (.bool false))), [(5, .res 7 z8List10), (2, .res 0 z8List11), (1, .cells (ch (cell1 (listS true) 10 3) [(3, .int .i64 (.int 4)), (4, .nilp), (9, .int .i64 z8List14)]))], 50, (z8List19, true) :: z8List1p57⟩,
    ⟨true, .one (.c (.bool (.bool false))), [(5, .res 7 z8List10), (2, .res 0 z8List11), (1, .cells (ch (cell1 (listS true) 10 3) [(3, .int .i64 (.int 0)), (4, .nilp)]))], 50, (z8List19, false) :: z8List1p57⟩,
    ⟨true, .one (.c (.bool (.bool false))), [(5, .res 7 z8List10), (2, .res 0 z8List11), (1, .cells (ch (cell1 (listS true) 10 3) [(3, .int .i64 (.int 5)), (4, .nilp), (6, .int .u64 z8List121)]))], 66, (z8List15, true) :: z8List1p61⟩,
    ⟨true, .one (.c (.bool (.bool false))), [(5, .res 7 z8List10), (2, .res 0 z8List11), (1, .cells (ch (cell1 (listS true) 10 3) [(3, .int .i64 (.int 7)), (4, .nilp), (6, .int .u64 z8List121)]))], 66, (z8List15, false) :: z8List1p61⟩,
    ⟨true, .one (.c (.bool (.bool true))), [(5, .res 7 z8List10), (2, .res 0 z8List11), (1, .cells (ch (cell1 (listS true) 10 3) [(4, .nilp), (6, .int .u64 z8List121), (10, .int .i64 (.int 0)), (11, .int .u64 (.int 0)), (12, .int .i64 (.int 0)), (13, xi 18)]))], 66, (z8List15, true) :: z8List1p62⟩,
    ⟨true, .one (.c (.bool (.bool false))), [(5, .res 7 z8List10), (2, .res 0 z8List11), (1, .cells (ch (cell1 (listS true) 10 3) [(3, .int .i64 (.int 11)), (4, .nilp), (6, .int .u64 z8List121), (10, .int .i64 (.int 0)), (11, .int .u64 (.int 0)), (12, .int .i64 (.int 0)), (13, xi 18)]))], 66, (z8List15, false) :: z8List1p62⟩,
    ⟨true, .one (.c (.bool (.bool false))), [(5, .res 7 z8List10), (2, .res 0 z8List11), (1, .cells (ch (cell1 (listS true) 10 3) [(3, .int .i64 (.int 1)), (4, .nilp), (6, .int .u64 z8List121)]))], 66, (z8List122, false) :: z8List1p59⟩,
    ⟨true, .one (.c (.bool (.bool false))), [(5, .res 7 z8List10), (2, .res 0 z8List11), (1, .cells (ch (cell1 (listS true) 10 3) [(3, .int .i64 (.int 6)), (4, .nilp), (8, .int .u64 z8List124)]))], 50, (z8List19, true) :: z8List1p64⟩,
    ⟨true, .one (.c (.bool (.bool true))), [(5, .res 7 z8List10), (2, .res 0 z8List11), (1, .cells (ch (cell1 (listS true) 10 3) [(4, .nilp), (10, .int .i64 z8List18), (11, .int .u64 (.int 0)), (12, .int .i64 (.int 0)), (13, .int .i64 z8List14)]))], 50, (z8List15, true) :: z8List1p65⟩,
    ⟨true, .one (.c (.bool (.bool false))), [(5, .res 7 z8List10), (2, .res 0 z8List11), (1, .cells (ch (cell1 (listS true) 10 3) [(3, .int .i64 (.int 11)), (4, .nilp), (10, .int .i64 z8List18), (11, .int .u64 (.int 0)), (12, .int .i64 (.int 0)), (13, .int .i64 z8List14)]))], 50, (z8List15, false) :: z8List1p65⟩,
    ⟨true, .one (.c (.bool (.bool false))), [(5, .res 7 z8List10), (2, .res 0 z8List11), (1, .cells (ch (cell1 (listS true) 10 3) [(3, .int .i64 (.int 7)), (4, .nilp)]))], 50, (z8List126, true) :: z8List1p66⟩,
    ⟨true, .one (.c (.bool (.bool false))), [(5, .res 7 z8List10), (2, .res 0 z8List11), (1, .cells (ch (cell1 (listS true) 10 3) [(3, .int .i64 (.int 8)), (4, .nilp)]))], 50, (z8List127, true) :: z8List1p67⟩,
    ⟨true, .one (.c (.bool (.bool true))), [(5, .res 7 z8List10), (2, .res 0 z8List11), (1, .cells (ch (cell1 (listS true) 10 3) [(4, .nilp), (8, .int .u64 (.int 0)), (10, .int .i64 (.int 0)), (11, .int .u64 (.int 0)), (12, .int .i64 (.int 1)), (13, .int .i64 z8List14)]))], 50, (z8List19, true) :: z8List1p69⟩,
    ⟨true, .one (.c (.bool (.bool false))), [(5, .res 7 z8List10), (2, .res 0 z8List11), (1, .cells (ch (cell1 (listS true) 10 3) [(3, .int .i64 (.int 0)), (4, .nilp)]))], 50, (z8List19, false) :: z8List1p69⟩,
    ⟨true, .one (.c (.bool (.bool false))), [(5, .res 7 z8List10), (2, .res 0 z8List11), (1, .cells (ch (cell1 (listS true) 10 3) [(3, .int .i64 (.int 10)), (4, .nilp), (10, .int .i64 (.int 0)), (11, .int .u64 (.int 0)), (12, .int .i64 (.int 1)), (13, .int .i64 z8List14)]))], 50, (z8List19, true) :: z8List1p71⟩,
    ⟨true, .one (.c (.bool (.bool false))), [(5, .res 7 z8List10), (2, .res 0 z8List11), (1, .cells (ch (cell1 (listS true) 10 3) [(3, .int .i64 (.int 0)), (4, .nilp)]))], 50, (z8List19, false) :: z8List1p71⟩,
    ⟨true, .one (.c (.bool (.o1 .not z8List19))), [(5, .res 7 z8List10), (2, .res 0 z8List11), (1, .cells (ch (cell1 (listS true) 10 3) [(3, .int .i64 (.int 11)), (4, .nilp)]))], 50, (z8List130, true) :: z8List1p72⟩,
    ⟨true, .one (.c (.bool (.bool true))), [(5, .res 7 z8List10), (2, .res 0 z8List11), (1, .cells (ch (cell1 (listS true) 10 3) [(4, .nilp)]))], 50, (z8List130, false) :: z8List1p72⟩,
    ⟨true, .one (.c (.bool (.bool false))), [(5, .res 7 z8List10), (2, .res 0 z8List11), (1, .cells (ch (cell1 (listS true) 10 3) []))], 48, [(z8List111, false)]⟩], by as_aux_lemma => kernel_rfl,
    allC_cons (way1 (listS false) (by simp [kinds]) (fun j => match j with | 3 => (.int 5) | 4 => (.var 12) | 5 => z8List13 | 8 => z8List14 | j => .var (j + 10)) (fun j => match j with | 1 => 1 | _ => 0) (by kernel_rfl) rfl rfl rfl (by kernel_rfl) ?_) <|
    allC_cons (way1 (listS false) (by simp [kinds]) (fun j => match j with | 3 => (.int 7) | 4 => (.var 12) | 5 => z8List13 | 8 => z8List14 | j => .var (j + 10)) (fun j => match j with | 1 => 1 | _ => 0) (by kernel_rfl) rfl rfl rfl (by kernel_rfl) ?_) <|
    allC_cons (way1 (listS false) (by simp [kinds]) (fun j => match j with | 4 => (.var 12) | 5 => z8List13 | 8 => z8List14 | 9 => (.int 0) | 10 => (.int 0) | 11 => (.int 0) | 12 => z8List14 | j => .var (j + 10)) (fun j => match j with | 1 => 1 | _ => 0) (by kernel_rfl) rfl rfl rfl (by kernel_rfl) ?_) <|
    allC_cons (way1 (listS false) (by simp [kinds]) (fun j => match j with | 3 => (.int 11) | 4 => (.var 12) | 5 => z8List13 | 8 => z8List14 | 9 => (.int 0) | 10 => (.int 0) | 11 => (.int 0) | 12 => z8List14 | j => .var (j + 10)) (fun j => match j with | 1 => 1 | _ => 0) (by kernel_rfl) rfl rfl rfl (by kernel_rfl) ?_) <|
    allC_cons (way1 (listS false) (by simp [kinds]) (fun j => match j with | 3 => (.int 1) | 4 => (.var 12) | 5 => z8List13 | 8 => z8List14 | j => .var (j + 10)) (fun j => match j with | 1 => 1 | _ => 0) (by kernel_rfl) rfl rfl rfl (by kernel_rfl) ?_) <|
    allC_cons (way1 (listS false) (by simp [kinds]) (fun j => match j with | 9 => z8List18 | 10 => (.int 0) | 11 => (.int 0) | 12 => z8List14 | j => .var (j + 10)) (fun j => match j with | 1 => 1 | _ => 0) (by kernel_rfl) rfl rfl rfl (by kernel_rfl) ?_) <|
    allC_cons (way1 (listS false) (by simp [kinds]) (fun j => match j with | 3 => (.int 11) | 9 => z8List18 | 10 => (.int 0) | 11 => (.int 0) | 12 => z8List14 | j => .var (j + 10)) (fun j => match j with | 1 => 1 | _ => 0) (by kernel_rfl) rfl rfl rfl (by kernel_rfl) ?_) <|
    allC_cons (way1 (listS false) (by simp [kinds]) (fun j => match j with | 3 => (.int 3) | 6 => z8List12 | j => .var (j + 10)) (fun j => match j with | 1 => 1 | _ => 0) (by kernel_rfl) rfl rfl rfl (by kernel_rfl) ?_) <|
    allC_cons (way1 (listS false) (by simp [kinds]) (fun j => match j with | 3 => (.int 2) | 6 => z8List12 | 12 => z8List14 | j => .var (j + 10)) (fun j => match j with | 1 => 1 | _ => 0) (by kernel_rfl) rfl rfl rfl (by kernel_rfl) ?_) <|
    allC_cons (way1 (listS false) (by simp [kinds]) (fun j => match j with | 3 => (.int 0) | j => .var (j + 10)) (fun j => match j with | 1 => 1 | _ => 0) (by kernel_rfl) rfl rfl rfl (by kernel_rfl) ?_) <|
    allC_cons (way1 (listS false) (by simp [kinds]) (fun j => match j with | 3 => (.int 5) | 4 => (.var 15) | 5 => z8List114 | 8 => (.var 22) | j => .var (j + 10)) (fun j => match j with | 1 => 1 | _ => 0) (by kernel_rfl) rfl rfl rfl (by kernel_rfl) ?_) <|
    allC_cons (way1 (listS false) (by simp [kinds]) (fun j => match j with | 3 => (.int 7) | 4 => (.var 15) | 5 => z8List114 | 8 => (.var 22) | j => .var (j + 10)) (fun j => match j with | 1 => 1 | _ => 0) (by kernel_rfl) rfl rfl rfl (by kernel_rfl) ?_) <|
    allC_cons (way1 (listS false) (by simp [kinds]) (fun j => match j with | 4 => (.var 15) | 5 => z8List114 | 8 => (.var 22) | 9 => (.int 0) | 10 => (.int 0) | 11 => (.int 0) | j => .var (j + 10)) (fun j => match j with | 1 => 1 | _ => 0) (by kernel_rfl) rfl rfl rfl (by kernel_rfl) ?_) <|
    allC_cons (way1 (listS false) (by simp [kinds]) (fun j => match j with | 3 => (.int 11) | 4 => (.var 15) | 5 => z8List114 | 8 => (.var 22) | 9 => (.int 0) | 10 => (.int 0) | 11 => (.int 0) | j => .var (j + 10)) (fun j => match j with | 1 => 1 | _ => 0) (by kernel_rfl) rfl rfl rfl (by kernel_rfl) ?_) <|
    allC_cons (way1 (listS false) (by simp [kinds]) (fun j => match j with | 3 => (.int 1) | 4 => (.var 15) | 5 => z8List114 | 8 => (.var 22) | j => .var (j + 10)) (fun j => match j with | 1 => 1 | _ => 0) (by kernel_rfl) rfl rfl rfl (by kernel_rfl) ?_) <|
    allC_cons (way1 (listS false) (by simp [kinds]) (fun j => match j with | 3 => (.int 9) | j => .var (j + 10)) (fun j => match j with | 1 => 1 | _ => 0) (by kernel_rfl) rfl rfl rfl (by kernel_rfl) ?_) <|
    allC_cons (way1 (listS false) (by simp [kinds]) (fun j => match j with | 9 => (.int 0) | 10 => (.int 0) | 11 => (.int 0) | j => .var (j + 10)) (fun j => match j with | 1 => 1 | _ => 0) (by kernel_rfl) rfl rfl rfl (by kernel_rfl) ?_) <|
    allC_cons (way1 (listS false) (by simp [kinds]) (fun j => match j with | 3 => (.int 11) | 9 => (.int 0) | 10 => (.int 0) | 11 => (.int 0) | j => .var (j + 10)) (fun j => match j with | 1 => 1 | _ => 0) (by kernel_rfl) rfl rfl rfl (by kernel_rfl) ?_) <|
    allC_cons (way1 (listS false) (by simp [kinds]) (fun j => match j with | 9 => (.int 0) | 10 => (.int 0) | 11 => (.int 1) | j => .var (j + 10)) (fun j => match j with | 1 => 1 | _ => 0) (by kernel_rfl) rfl rfl rfl (by kernel_rfl) ?_) <|
    allC_cons (way1 (listS false) (by simp [kinds]) (fun j => match j with | 3 => (.int 11) | 9 => (.int 0) | 10 => (.int 0) | 11 => (.int 1) | j => .var (j + 10)) (fun j => match j with | 1 => 1 | _ => 0) (by kernel_rfl) rfl rfl rfl (by kernel_rfl) ?_) <|
    allC_cons (way1 (listS false) (by simp [kinds]) (fun j => match j with | 3 => (.int 5) | j => .var (j + 10)) (fun j => match j with | 1 => 1 | _ => 0) (by kernel_rfl) rfl rfl rfl (by kernel_rfl) ?_) <|
    allC_cons (way1 (listS false) (by simp [kinds]) (fun j => match j with | 3 => (.int 7) | j => .var (j + 10)) (fun j => match j with | 1 => 1 | _ => 0) (by kernel_rfl) rfl rfl rfl (by kernel_rfl) ?_) <|
    allC_cons (way1 (listS false) (by simp [kinds]) (fun j => match j with | 9 => (.int 0) | 10 => (.int 0) | 11 => (.int 0) | 12 => (.var 18) | j => .var (j + 10)) (fun j => match j with | 1 => 1 | _ => 0) (by kernel_rfl) rfl rfl rfl (by kernel_rfl) ?_) <|
    allC_cons (way1 (listS false) (by simp [kinds]) (fun j => match j with | 3 => (.int 11) | 9 => (.int 0) | 10 => (.int 0) | 11 => (.int 0) | 12 => (.var 18) | j => .var (j + 10)) (fun j => match j with | 1 => 1 | _ => 0) (by kernel_rfl) rfl rfl rfl (by kernel_rfl) ?_) <|
    allC_cons (way1 (listS false) (by simp [kinds]) (fun j => match j with | 3 => (.int 0) | j => .var (j + 10)) (fun j => match j with | 1 => 1 | _ => 0) (by kernel_rfl) rfl rfl rfl (by kernel_rfl) ?_) <|
    allC_cons (way1 (listS false) (by simp [kinds]) (fun j => match j with | 3 => (.int 4) | 8 => z8List14 | j => .var (j + 10)) (fun j => match j with | 1 => 1 | _ => 0) (by kernel_rfl) rfl rfl rfl (by kernel_rfl) ?_) <|
    allC_cons (way1 (listS false) (by simp [kinds]) (fun j => match j with | 3 => (.int 0) | j => .var (j + 10)) (fun j => match j with | 1 => 1 | _ => 0) (by kernel_rfl) rfl rfl rfl (by kernel_rfl) ?_) <|
    allC_cons (way1 (listS false) (by simp [kinds]) (fun j => match j with | 3 => (.int 5) | 5 => z8List121 | j => .var (j + 10)) (fun j => match j with | 1 => 1 | _ => 0) (by kernel_rfl) rfl rfl rfl (by kernel_rfl) ?_) <|
    allC_cons (way1 (listS false) (by simp [kinds]) (fun j => match j with | 3 => (.int 7) | 5 => z8List121 | j => .var (j + 10)) (fun j => match j with | 1 => 1 | _ => 0) (by kernel_rfl) rfl rfl rfl (by kernel_rfl) ?_) <|
    allC_cons (way1 (listS false) (by simp [kinds]) (fun j => match j with | 5 => z8List121 | 9 => (.int 0) | 10 => (.int 0) | 11 => (.int 0) | 12 => (.var 18) | j => .var (j + 10)) (fun j => match j with | 1 => 1 | _ => 0) (by kernel_rfl) rfl rfl rfl (by kernel_rfl) ?_) <|
    allC_cons (way1 (listS false) (by simp [kinds]) (fun j => match j with | 3 => (.int 11) | 5 => z8List121 | 9 => (.int 0) | 10 => (.int 0) | 11 => (.int 0) | 12 => (.var 18) | j => .var (j + 10)) (fun j => match j with | 1 => 1 | _ => 0) (by kernel_rfl) rfl rfl rfl (by kernel_rfl) ?_) <|
    allC_cons (way1 (listS false) (by simp [kinds]) (fun j => match j with | 3 => (.int 1) | 5 => z8List121 | j => .var (j + 10)) (fun j => match j with | 1 => 1 | _ => 0) (by kernel_rfl) rfl rfl rfl (by kernel_rfl) ?_) <|
    allC_cons (way1 (listS false) (by simp [kinds]) (fun j => match j with | 3 => (.int 6) | 7 => z8List124 | j => .var (j + 10)) (fun j => match j with | 1 => 1 | _ => 0) (by kernel_rfl) rfl rfl rfl (by kernel_rfl) ?_) <|
    allC_cons (way1 (listS false) (by simp [kinds]) (fun j => match j with | 9 => z8List18 | 10 => (.int 0) | 11 => (.int 0) | 12 => z8List14 | j => .var (j + 10)) (fun j => match j with | 1 => 1 | _ => 0) (by kernel_rfl) rfl rfl rfl (by kernel_rfl) ?_) <|
    allC_cons (way1 (listS false) (by simp [kinds]) (fun j => match j with | 3 => (.int 11) | 9 => z8List18 | 10 => (.int 0) | 11 => (.int 0) | 12 => z8List14 | j => .var (j + 10)) (fun j => match j with | 1 => 1 | _ => 0) (by kernel_rfl) rfl rfl rfl (by kernel_rfl) ?_) <|
    allC_cons (way1 (listS false) (by simp [kinds]) (fun j => match j with | 3 => (.int 7) | j => .var (j + 10)) (fun j => match j with | 1 => 1 | _ => 0) (by kernel_rfl) rfl rfl rfl (by kernel_rfl) ?_) <|
    allC_cons (way1 (listS false) (by simp [kinds]) (fun j => match j with | 3 => (.int 8) | j => .var (j + 10)) (fun j => match j with | 1 => 1 | _ => 0) (by kernel_rfl) rfl rfl rfl (by kernel_rfl) ?_) <|
    allC_cons (way1 (listS false) (by simp [kinds]) (fun j => match j with | 7 => (.int 0) | 9 => (.int 0) | 10 => (.int 0) | 11 => (.int 1) | 12 => z8List14 | j => .var (j + 10)) (fun j => match j with | 1 => 1 | _ => 0) (by kernel_rfl) rfl rfl rfl (by kernel_rfl) ?_) <|
    allC_cons (way1 (listS false) (by simp [kinds]) (fun j => match j with | 3 => (.int 0) | j => .var (j + 10)) (fun j => match j with | 1 => 1 | _ => 0) (by kernel_rfl) rfl rfl rfl (by kernel_rfl) ?_) <|
    allC_cons (way1 (listS false) (by simp [kinds]) (fun j => match j with | 3 => (.int 10) | 9 => (.int 0) | 10 => (.int 0) | 11 => (.int 1) | 12 => z8List14 | j => .var (j + 10)) (fun j => match j with | 1 => 1 | _ => 0) (by kernel_rfl) rfl rfl rfl (by kernel_rfl) ?_) <|
    allC_cons (way1 (listS false) (by simp [kinds]) (fun j => match j with | 3 => (.int 0) | j => .var (j + 10)) (fun j => match j with | 1 => 1 | _ => 0) (by kernel_rfl) rfl rfl rfl (by kernel_rfl) ?_) <|
    allC_cons (way1 (listS false) (by simp [kinds]) (fun j => match j with | 3 => (.int 11) | j => .var (j + 10)) (fun j => match j with | 1 => 1 | _ => 0) (by kernel_rfl) rfl rfl rfl (by kernel_rfl) ?_) <|
    allC_cons (way1 (listS false) (by simp [kinds]) (fun j => match j with  | j => .var (j + 10)) (fun j => match j with | 1 => 1 | _ => 0) (by kernel_rfl) rfl rfl rfl (by kernel_rfl) ?_) <|
    allC_cons (way1 (listS true) (by simp [kinds]) (fun j => match j with | 14 => z8List10 | j => .var (j + 10)) (fun j => match j with | 2 => 5 | 1 => 1 | _ => 0) (by kernel_rfl) rfl rfl rfl (by kernel_rfl) ?_) <|
    allC_nil _⟩ 
  )
  all_goals as_aux_lemma =>
    intro n hp hg hi
    simp only [pt_nil, pt_cons, E.den, sg_f1, sg_f2, sg_f3, sg_f4, f1_0, f1_1, f1_2, f1_3, f1_4, f1_5, f1_6, f1_72, f1_73, f1_74, f1_75, f1_90, f1_91, f1_80, f1_81, f2_40, f4_40, f4_41, f4_42, f4_51, f4_50, f4_43, f4_44, f4_45, O1.ap, O3.ap, ap_arith, ap_bits, ap_div, ap_shift, ap_eql, ap_lss, ap_beq, ap_min, ap_max, ap_nthI, ap_nthB, ap_inI, ap_inB, G.toInt_int, G.toBool_bool, G.toInts_ints, ltI_t, ltI_f, inN_t, inN_f, and_true, Nat.zero_add, Nat.reduceAdd, arith_add, arith_sub, arith_mul, i64, u64, cas_by, openAt, pinAt, gplace_u, ggive_u, ghelp_u, galloc_u, gdrop_u, gaccess_u, gact_u, glst_u, gmem_u, gactx_u, gquad_u, Bool.not_eq_true', Bool.not_eq_false', beq_iff_eq, beq_eq_false_iff_ne, ne_eq] at hp
    simp only [mList, stepSp, doneSp, e4, listS, optG, optH, optP, wishE, sg_f1, sg_f2, sg_f3, sg_f4, f1_0, f1_1, f1_2, f1_3, f1_4, f1_5, f1_6, f1_72, f1_73, f1_74, f1_75, f1_90, f1_91, f1_80, f1_81, f2_40, f4_40, f4_41, f4_42, f4_51, f4_50, f4_43, f4_44, f4_45, O1.ap, O3.ap, ap_arith, ap_bits, ap_div, ap_shift, ap_eql, ap_lss, ap_beq, ap_min, ap_max, ap_nthI, ap_nthB, ap_inI, ap_inB, G.toInt_int, G.toBool_bool, G.toInts_ints, ltI_t, ltI_f, inN_t, inN_f, and_true, Nat.zero_add, Nat.reduceAdd, arith_add, arith_sub, arith_mul, i64, u64, cas_by, openAt, pinAt] at hg hi
    first
    | (simp only [mList, stepSp, doneSp, e4, listS, optG, optH, optP, wishE, xi, xu, xb, SV.den, S2.den, S1.den, cellsDen, List.map, iE, uE, bE, E.den, sg_f1, sg_f2, sg_f3, sg_f4, f1_0, f1_1, f1_2, f1_3, f1_4, f1_5, f1_6, f1_72, f1_73, f1_74, f1_75, f1_90, f1_91, f1_80, f1_81, f2_40, f4_40, f4_41, f4_42, f4_51, f4_50, f4_43, f4_44, f4_45, O1.ap, O3.ap, ap_arith, ap_bits, ap_div, ap_shift, ap_eql, ap_lss, ap_beq, ap_min, ap_max, ap_nthI, ap_nthB, ap_inI, ap_inB, G.toInt_int, G.toBool_bool, G.toInts_ints, ltI_t, ltI_f, inN_t, inN_f, and_true, Nat.zero_add, Nat.reduceAdd, arith_add, arith_sub, arith_mul, i64, u64, cas_by, openAt, pinAt, hg, gplace_u, ggive_u, ghelp_u, galloc_u, gdrop_u, gaccess_u, gact_u, glst_u, gmem_u, listStep, listWant, listTold, listLooked, listUnlinked, listJoined, listRemoved, listAt, listAbsent, listPresent, listAgain, listEnd, ibits, gactx_u, gquad_u, hp, reduceIte, if_true, if_false, not_true, not_false_iff, Classical.not_not, true_and, and_true, false_and, and_false, true_or, or_true, false_or, or_false, Bool.not_true, Bool.not_false, Bool.and_true, Bool.and_false, Bool.false_and, Bool.true_and, decide_true, decide_false, Int.reduceEq, Bool.false_eq_true, Bool.true_eq_false]; done)
    | (simp only [mList, stepSp, doneSp, e4, listS, optG, optH, optP, wishE, xi, xu, xb, SV.den, S2.den, S1.den, cellsDen, List.map, iE, uE, bE, E.den, sg_f1, sg_f2, sg_f3, sg_f4, f1_0, f1_1, f1_2, f1_3, f1_4, f1_5, f1_6, f1_72, f1_73, f1_74, f1_75, f1_90, f1_91, f1_80, f1_81, f2_40, f4_40, f4_41, f4_42, f4_51, f4_50, f4_43, f4_44, f4_45, O1.ap, O3.ap, ap_arith, ap_bits, ap_div, ap_shift, ap_eql, ap_lss, ap_beq, ap_min, ap_max, ap_nthI, ap_nthB, ap_inI, ap_inB, G.toInt_int, G.toBool_bool, G.toInts_ints, ltI_t, ltI_f, inN_t, inN_f, and_true, Nat.zero_add, Nat.reduceAdd, arith_add, arith_sub, arith_mul, i64, u64, cas_by, openAt, pinAt, hg, gplace_u, ggive_u, ghelp_u, galloc_u, gdrop_u, gaccess_u, gact_u, glst_u, gmem_u, listStep, listWant, listTold, listLooked, listUnlinked, listJoined, listRemoved, listAt, listAbsent, listPresent, listAgain, listEnd, ibits, gactx_u, gquad_u]; simp [hp]; done)
    | (simp only [mList, stepSp, doneSp, e4, listS, optG, optH, optP, wishE, xi, xu, xb, SV.den, S2.den, S1.den, cellsDen, List.map, iE, uE, bE, E.den, sg_f1, sg_f2, sg_f3, sg_f4, f1_0, f1_1, f1_2, f1_3, f1_4, f1_5, f1_6, f1_72, f1_73, f1_74, f1_75, f1_90, f1_91, f1_80, f1_81, f2_40, f4_40, f4_41, f4_42, f4_51, f4_50, f4_43, f4_44, f4_45, O1.ap, O3.ap, ap_arith, ap_bits, ap_div, ap_shift, ap_eql, ap_lss, ap_beq, ap_min, ap_max, ap_nthI, ap_nthB, ap_inI, ap_inB, G.toInt_int, G.toBool_bool, G.toInts_ints, ltI_t, ltI_f, inN_t, inN_f, and_true, Nat.zero_add, Nat.reduceAdd, arith_add, arith_sub, arith_mul, i64, u64, cas_by, openAt, pinAt, hg, gplace_u, ggive_u, ghelp_u, galloc_u, gdrop_u, gaccess_u, gact_u, glst_u, gmem_u, listStep, listWant, listTold, listLooked, listUnlinked, listJoined, listRemoved, listAt, listAbsent, listPresent, listAgain, listEnd, ibits, gactx_u, gquad_u]; simp_all; done)
    | (exfalso; omega)
    | skip

end Go.Fl
