/- Templates, level 6: act. -/
import Derived.Test.YtdkjpjiljplahaaGreatMfA
import Derived.Test.YtdkjpjiljplahaaGreatMfB
import Derived.Test.YtdkjpjiljplahaaGreatMfC
import Derived.Test.YtdkjpjiljplahaaGreatMb
namespace Go.Fl
open Go Go.Sx
variable [ExtF]

def ts5 : List (Nat × Tmpl) := [(341, mAlloc.t), (349, mDrop.t), (358, mAccess.t)]
theorem ts5_ok : AllT ts5 := allT_cons mAlloc_ok <| allT_cons mDrop_ok <| allT_cons mAccess_ok allT_nil
def tm5 : CH := tmOf (ts5 ++ (49, tOf) :: (ts4 ++ (ts3 ++ (ts2 ++ ts1))))
theorem tm5_ok : CallOK SG prog tm5 := tmOf_ok (allT_app ts5_ok (allT_cons tOf_ok (allT_app ts4_ok (allT_app ts3_ok (allT_app ts2_ok ts1_ok)))))

def actAlloc : Shape U := actS tAlloc 4 fun g => .alloc (galloc g)
def actDrop : Shape U := actS tDrop 5 fun g => .drop (gdrop g)
def actAccess : Shape U := actS tAccess 6 fun g => .access (gaccess g)
def mAct : MSpec := stepSp 7 40
def mActDone : MSpec := doneSp 7 72
def specs6 : List (String × Nat × MSpec) := [("mAct", 108, mAct), ("mActDone", 109, mActDone)]
end Go.Fl

/- Templates, level 6, shown. -/
namespace Go.Fl
open Go Go.Sx Go.Proofs
variable [ExtF]
set_option linter.unusedSimpArgs false
set_option maxRecDepth 100000
set_option maxHeartbeats 2000000

abbrev z60 : E := .f3 3 (.var 1) (.var 3) (.int 0)
abbrev z61 : E := .f2 20 (.var 1) (.int 0)
abbrev z62 : E := .o2 .eql (.var 10) (.int 0)
abbrev z63 : E := .o2 .eql (.var 12) (.int 0)
abbrev z64 : E := .o2 (.arith .add .i64) (.int 6) (.var 3)
abbrev z65 : E := .f4 10 (.var 1) (.var 3) z64 (.o2 (.arith .add .u64) (.var 11) (.int 1))
abbrev z66 : E := .o2 .eql (.var 10) (.int 1)
abbrev z67 : E := .o2 .eql z61 (.var 11)
abbrev z68 : E := .f4 30 (.var 17) (.var 1) (.var 2) (.var 3)
abbrev z69 : E := .f4 31 (.var 17) (.var 1) (.var 2) (.var 3)
abbrev z610 : E := .f4 32 (.var 17) (.var 1) (.var 2) (.var 3)
abbrev z611 : E := .o2 .eql (.var 12) (.int 1)
abbrev z612 : E := .f4 10 (.var 1) (.var 3) z64 (.int 0)
abbrev z613 : E := .f4 33 (.var 17) (.var 1) (.var 2) (.var 3)
abbrev z614 : E := .f4 34 (.var 17) (.var 1) (.var 2) (.var 3)
abbrev z615 : E := .f4 35 (.var 17) (.var 1) (.var 2) (.var 3)
abbrev z616 : E := .f4 36 (.var 17) (.var 1) (.var 2) (.var 3)
abbrev z617 : E := .f4 37 (.var 17) (.var 1) (.var 2) (.var 3)
abbrev z618 : E := .f4 38 (.var 17) (.var 1) (.var 2) (.var 3)
abbrev z6p19 : Path := (z62, true) :: [(z63, true)]
abbrev z6p20 : Path := (z62, false) :: [(z63, true)]
abbrev z6p21 : Path := (z66, true) :: z6p20
abbrev z6p22 : Path := (z66, false) :: z6p20
abbrev z6p23 : Path := (z67, true) :: z6p22
abbrev z6p24 : Path := (z67, false) :: z6p22
abbrev z6p25 : Path := (z611, true) :: [(z63, false)]
abbrev z6p26 : Path := (z611, false) :: [(z63, false)]
theorem mAct_ok : mAct.t.ok SG prog 108 := by
  refine MSpec.ok tm5_ok mAct rfl (by kernel_rfl) (
  allS_cons ⟨[⟨true, .one (.c (.bool (.bool false))), [(5, .res 4 (.var 17)), (2, .res 0 z60), (1, .cells (ch (cell1 actAlloc 10 3) [(0, .int .i64 (.int 1)), (1, .int .u64 z61)]))], 58, z6p19⟩,
    ⟨true, .one (.c (.bool (.bool false))), [(5, .res 4 (.var 17)), (2, .res 0 z65), (1, .cells (ch (cell1 actAlloc 10 3) [(0, .int .i64 (.int 2))]))], 57, z6p21⟩,
    ⟨true, .one (.c (.bool (.bool false))), [(5, .res 4 (.var 17)), (2, .res 0 z60), (1, .cells (ch (cell1 actAlloc 10 3) [(2, .int .i64 (.int 1))]))], 51, z6p23⟩,
    ⟨true, .one (.c (.bool (.bool false))), [(5, .res 4 (.var 17)), (2, .res 0 z60), (1, .cells (ch (cell1 actAlloc 10 3) [(0, .int .i64 (.int 1)), (1, .int .u64 z61)]))], 51, z6p24⟩,
    ⟨true, .one (.c (.bool (.bool false))), [(5, .res 4 z68), (2, .res 0 z69), (1, .cells (ch (cell1 actAlloc 10 3) [(2, .int .i64 (.int 2)), (4, .int .i64 (.f1 60 z68)), (5, .int .u64 (.f1 61 z68)), (6, .int .i64 (.f1 62 z68)), (7, .int .i64 (.f1 63 z68))]))], 47, (z610, true) :: z6p25⟩,
    ⟨true, .one (.c (.bool (.bool false))), [(5, .res 4 z68), (2, .res 0 z69), (1, .cells (ch (cell1 actAlloc 10 3) []))], 47, (z610, false) :: z6p25⟩,
    ⟨true, .one (.c (.bool (.bool true))), [(5, .res 4 (.var 17)), (2, .res 0 z612), (1, .cells (ch (cell1 actAlloc 10 3) []))], 48, z6p26⟩], by as_aux_lemma => kernel_rfl,
    allC_cons (way1 actAlloc (by simp [kinds, actAlloc, actDrop, actAccess]) (fun j => match j with | 0 => (.int 1) | 1 => z61 | j => .var (j + 10)) (fun j => match j with | 2 => 5 | 1 => 1 | _ => 0) (by kernel_rfl) rfl rfl rfl (by kernel_rfl) ?_) <|
    allC_cons (way1 actAlloc (by simp [kinds, actAlloc, actDrop, actAccess]) (fun j => match j with | 0 => (.int 2) | j => .var (j + 10)) (fun j => match j with | 2 => 5 | 1 => 1 | _ => 0) (by kernel_rfl) rfl rfl rfl (by kernel_rfl) ?_) <|
    allC_cons (way1 actAlloc (by simp [kinds, actAlloc, actDrop, actAccess]) (fun j => match j with | 2 => (.int 1) | j => .var (j + 10)) (fun j => match j with | 2 => 5 | 1 => 1 | _ => 0) (by kernel_rfl) rfl rfl rfl (by kernel_rfl) ?_) <|
    allC_cons (way1 actAlloc (by simp [kinds, actAlloc, actDrop, actAccess]) (fun j => match j with | 0 => (.int 1) | 1 => z61 | j => .var (j + 10)) (fun j => match j with | 2 => 5 | 1 => 1 | _ => 0) (by kernel_rfl) rfl rfl rfl (by kernel_rfl) ?_) <|
    allC_cons (way1 actAlloc (by simp [kinds, actAlloc, actDrop, actAccess]) (fun j => match j with | 2 => (.int 2) | 3 => (.f1 60 z68) | 4 => (.f1 61 z68) | 5 => (.f1 62 z68) | 6 => (.f1 63 z68) | 7 => z68 | j => .var (j + 10)) (fun j => match j with | 2 => 5 | 1 => 1 | _ => 0) (by kernel_rfl) rfl rfl rfl (by kernel_rfl) ?_) <|
    allC_cons (way1 actAlloc (by simp [kinds, actAlloc, actDrop, actAccess]) (fun j => match j with | 7 => z68 | j => .var (j + 10)) (fun j => match j with | 2 => 5 | 1 => 1 | _ => 0) (by kernel_rfl) rfl rfl rfl (by kernel_rfl) ?_) <|
    allC_cons (way1 actAlloc (by simp [kinds, actAlloc, actDrop, actAccess]) (fun j => match j with  | j => .var (j + 10)) (fun j => match j with | 2 => 5 | 1 => 1 | _ => 0) (by kernel_rfl) rfl rfl rfl (by kernel_rfl) ?_) <|
    allC_nil _⟩ <|
  allS_cons ⟨[⟨true, .one (.c (.bool (.bool false))), [(5, .res 5 (.var 17)), (2, .res 0 z60), (1, .cells (ch (cell1 actDrop 10 3) [(0, .int .i64 (.int 1)), (1, .int .u64 z61)]))], 58, z6p19⟩,
    ⟨true, .one (.c (.bool (.bool false))), [(5, .res 5 (.var 17)), (2, .res 0 z65), (1, .cells (ch (cell1 actDrop 10 3) [(0, .int .i64 (.int 2))]))], 57, z6p21⟩,
    ⟨true, .one (.c (.bool (.bool false))), [(5, .res 5 (.var 17)), (2, .res 0 z60), (1, .cells (ch (cell1 actDrop 10 3) [(2, .int .i64 (.int 1))]))], 51, z6p23⟩,
    ⟨true, .one (.c (.bool (.bool false))), [(5, .res 5 (.var 17)), (2, .res 0 z60), (1, .cells (ch (cell1 actDrop 10 3) [(0, .int .i64 (.int 1)), (1, .int .u64 z61)]))], 51, z6p24⟩,
    ⟨true, .one (.c (.bool (.bool false))), [(5, .res 5 z613), (2, .res 0 z614), (1, .cells (ch (cell1 actDrop 10 3) [(2, .int .i64 (.int 2)), (4, .int .i64 (.f1 64 z613)), (5, .int .u64 (.f1 65 z613)), (6, .int .i64 (.f1 66 z613)), (7, .int .i64 (.f1 67 z613))]))], 47, (z615, true) :: z6p25⟩,
    ⟨true, .one (.c (.bool (.bool false))), [(5, .res 5 z613), (2, .res 0 z614), (1, .cells (ch (cell1 actDrop 10 3) []))], 47, (z615, false) :: z6p25⟩,
    ⟨true, .one (.c (.bool (.bool true))), [(5, .res 5 (.var 17)), (2, .res 0 z612), (1, .cells (ch (cell1 actDrop 10 3) []))], 48, z6p26⟩], by as_aux_lemma => kernel_rfl,
    allC_cons (way1 actDrop (by simp [kinds, actAlloc, actDrop, actAccess]) (fun j => match j with | 0 => (.int 1) | 1 => z61 | j => .var (j + 10)) (fun j => match j with | 2 => 5 | 1 => 1 | _ => 0) (by kernel_rfl) rfl rfl rfl (by kernel_rfl) ?_) <|
    allC_cons (way1 actDrop (by simp [kinds, actAlloc, actDrop, actAccess]) (fun j => match j with | 0 => (.int 2) | j => .var (j + 10)) (fun j => match j with | 2 => 5 | 1 => 1 | _ => 0) (by kernel_rfl) rfl rfl rfl (by kernel_rfl) ?_) <|
    allC_cons (way1 actDrop (by simp [kinds, actAlloc, actDrop, actAccess]) (fun j => match j with | 2 => (.int 1) | j => .var (j + 10)) (fun j => match j with | 2 => 5 | 1 => 1 | _ => 0) (by kernel_rfl) rfl rfl rfl (by kernel_rfl) ?_) <|
    allC_cons (way1 actDrop (by simp [kinds, actAlloc, actDrop, actAccess]) (fun j => match j with | 0 => (.int 1) | 1 => z61 | j => .var (j + 10)) (fun j => match j with | 2 => 5 | 1 => 1 | _ => 0) (by kernel_rfl) rfl rfl rfl (by kernel_rfl) ?_) <|
    allC_cons (way1 actDrop (by simp [kinds, actAlloc, actDrop, actAccess]) (fun j => match j with | 2 => (.int 2) | 3 => (.f1 64 z613) | 4 => (.f1 65 z613) | 5 => (.f1 66 z613) | 6 => (.f1 67 z613) | 7 => z613 | j => .var (j + 10)) (fun j => match j with | 2 => 5 | 1 => 1 | _ => 0) (by kernel_rfl) rfl rfl rfl (by kernel_rfl) ?_) <|
    allC_cons (way1 actDrop (by simp [kinds, actAlloc, actDrop, actAccess]) (fun j => match j with | 7 => z613 | j => .var (j + 10)) (fun j => match j with | 2 => 5 | 1 => 1 | _ => 0) (by kernel_rfl) rfl rfl rfl (by kernel_rfl) ?_) <|
    allC_cons (way1 actDrop (by simp [kinds, actAlloc, actDrop, actAccess]) (fun j => match j with  | j => .var (j + 10)) (fun j => match j with | 2 => 5 | 1 => 1 | _ => 0) (by kernel_rfl) rfl rfl rfl (by kernel_rfl) ?_) <|
    allC_nil _⟩ <|
  allS_cons ⟨[⟨true, .one (.c (.bool (.bool false))), [(5, .res 6 (.var 17)), (2, .res 0 z60), (1, .cells (ch (cell1 actAccess 10 3) [(0, .int .i64 (.int 1)), (1, .int .u64 z61)]))], 58, z6p19⟩,
    ⟨true, .one (.c (.bool (.bool false))), [(5, .res 6 (.var 17)), (2, .res 0 z65), (1, .cells (ch (cell1 actAccess 10 3) [(0, .int .i64 (.int 2))]))], 57, z6p21⟩,
    ⟨true, .one (.c (.bool (.bool false))), [(5, .res 6 (.var 17)), (2, .res 0 z60), (1, .cells (ch (cell1 actAccess 10 3) [(2, .int .i64 (.int 1))]))], 51, z6p23⟩,
    ⟨true, .one (.c (.bool (.bool false))), [(5, .res 6 (.var 17)), (2, .res 0 z60), (1, .cells (ch (cell1 actAccess 10 3) [(0, .int .i64 (.int 1)), (1, .int .u64 z61)]))], 51, z6p24⟩,
    ⟨true, .one (.c (.bool (.bool false))), [(5, .res 6 z616), (2, .res 0 z617), (1, .cells (ch (cell1 actAccess 10 3) [(2, .int .i64 (.int 2)), (4, .int .i64 (.f1 68 z616)), (5, .int .u64 (.f1 69 z616)), (6, .int .i64 (.f1 70 z616)), (7, .int .i64 (.f1 71 z616))]))], 47, (z618, true) :: z6p25⟩,
    ⟨true, .one (.c (.bool (.bool false))), [(5, .res 6 z616), (2, .res 0 z617), (1, .cells (ch (cell1 actAccess 10 3) []))], 47, (z618, false) :: z6p25⟩,
    ⟨true, .one (.c (.bool (.bool true))), [(5, .res 6 (.var 17)), (2, .res 0 z612), (1, .cells (ch (cell1 actAccess 10 3) []))], 48, z6p26⟩], by as_aux_lemma => kernel_rfl,
    allC_cons (way1 actAccess (by simp [kinds, actAlloc, actDrop, actAccess]) (fun j => match j with | 0 => (.int 1) | 1 => z61 | j => .var (j + 10)) (fun j => match j with | 2 => 5 | 1 => 1 | _ => 0) (by kernel_rfl) rfl rfl rfl (by kernel_rfl) ?_) <|
    allC_cons (way1 actAccess (by simp [kinds, actAlloc, actDrop, actAccess]) (fun j => match j with | 0 => (.int 2) | j => .var (j + 10)) (fun j => match j with | 2 => 5 | 1 => 1 | _ => 0) (by kernel_rfl) rfl rfl rfl (by kernel_rfl) ?_) <|
    allC_cons (way1 actAccess (by simp [kinds, actAlloc, actDrop, actAccess]) (fun j => match j with | 2 => (.int 1) | j => .var (j + 10)) (fun j => match j with | 2 => 5 | 1 => 1 | _ => 0) (by kernel_rfl) rfl rfl rfl (by kernel_rfl) ?_) <|
    allC_cons (way1 actAccess (by simp [kinds, actAlloc, actDrop, actAccess]) (fun j => match j with | 0 => (.int 1) | 1 => z61 | j => .var (j + 10)) (fun j => match j with | 2 => 5 | 1 => 1 | _ => 0) (by kernel_rfl) rfl rfl rfl (by kernel_rfl) ?_) <|
    allC_cons (way1 actAccess (by simp [kinds, actAlloc, actDrop, actAccess]) (fun j => match j with | 2 => (.int 2) | 3 => (.f1 68 z616) | 4 => (.f1 69 z616) | 5 => (.f1 70 z616) | 6 => (.f1 71 z616) | 7 => z616 | j => .var (j + 10)) (fun j => match j with | 2 => 5 | 1 => 1 | _ => 0) (by kernel_rfl) rfl rfl rfl (by kernel_rfl) ?_) <|
    allC_cons (way1 actAccess (by simp [kinds, actAlloc, actDrop, actAccess]) (fun j => match j with | 7 => z616 | j => .var (j + 10)) (fun j => match j with | 2 => 5 | 1 => 1 | _ => 0) (by kernel_rfl) rfl rfl rfl (by kernel_rfl) ?_) <|
    allC_cons (way1 actAccess (by simp [kinds, actAlloc, actDrop, actAccess]) (fun j => match j with  | j => .var (j + 10)) (fun j => match j with | 2 => 5 | 1 => 1 | _ => 0) (by kernel_rfl) rfl rfl rfl (by kernel_rfl) ?_) <|
    allC_nil _⟩ <|
  allS_nil _)
  all_goals as_aux_lemma =>
    intro n hp hg hi
    simp only [pt_nil, pt_cons, E.den, sg_f1, sg_f2, sg_f3, sg_f4, f1_0, f1_1, f1_2, f1_3, f1_4, f1_5, f1_6, f1_60, f1_61, f1_62, f1_63, f1_64, f1_65, f1_66, f1_67, f1_68, f1_69, f1_70, f1_71, f2_20, f3_3, f4_10, f4_30, f4_31, f4_32, f4_33, f4_34, f4_35, f4_36, f4_37, f4_38, f4_40, f4_41, f4_42, O1.ap, O3.ap, ap_arith, ap_bits, ap_div, ap_shift, ap_eql, ap_lss, ap_beq, ap_min, ap_max, ap_nthI, ap_nthB, ap_inI, ap_inB, G.toInt_int, G.toBool_bool, G.toInts_ints, ltI_t, ltI_f, inN_t, inN_f, and_true, Nat.zero_add, Nat.reduceAdd, arith_add, arith_sub, arith_mul, i64, u64, cas_by, openAt, pinAt, gplace_u, ggive_u, ghelp_u, galloc_u, gdrop_u, gaccess_u, gact_u, glst_u, gmem_u, gactx_u, gquad_u, Bool.not_eq_true', Bool.not_eq_false', beq_iff_eq, beq_eq_false_iff_ne, ne_eq] at hp
    simp only [mAct, stepSp, doneSp, e4, actS, actAlloc, actDrop, actAccess, optG, optH, optP, sg_f1, sg_f2, sg_f3, sg_f4, f1_0, f1_1, f1_2, f1_3, f1_4, f1_5, f1_6, f1_60, f1_61, f1_62, f1_63, f1_64, f1_65, f1_66, f1_67, f1_68, f1_69, f1_70, f1_71, f2_20, f3_3, f4_10, f4_30, f4_31, f4_32, f4_33, f4_34, f4_35, f4_36, f4_37, f4_38, f4_40, f4_41, f4_42, O1.ap, O3.ap, ap_arith, ap_bits, ap_div, ap_shift, ap_eql, ap_lss, ap_beq, ap_min, ap_max, ap_nthI, ap_nthB, ap_inI, ap_inB, G.toInt_int, G.toBool_bool, G.toInts_ints, ltI_t, ltI_f, inN_t, inN_f, and_true, Nat.zero_add, Nat.reduceAdd, arith_add, arith_sub, arith_mul, i64, u64, cas_by, openAt, pinAt] at hg hi
    first
    | (simp only [mAct, stepSp, doneSp, e4, actS, actAlloc, actDrop, actAccess, optG, optH, optP, xi, xu, xb, SV.den, S2.den, S1.den, cellsDen, List.map, iE, uE, bE, E.den, sg_f1, sg_f2, sg_f3, sg_f4, f1_0, f1_1, f1_2, f1_3, f1_4, f1_5, f1_6, f1_60, f1_61, f1_62, f1_63, f1_64, f1_65, f1_66, f1_67, f1_68, f1_69, f1_70, f1_71, f2_20, f3_3, f4_10, f4_30, f4_31, f4_32, f4_33, f4_34, f4_35, f4_36, f4_37, f4_38, f4_40, f4_41, f4_42, O1.ap, O3.ap, ap_arith, ap_bits, ap_div, ap_shift, ap_eql, ap_lss, ap_beq, ap_min, ap_max, ap_nthI, ap_nthB, ap_inI, ap_inB, G.toInt_int, G.toBool_bool, G.toInts_ints, ltI_t, ltI_f, inN_t, inN_f, and_true, Nat.zero_add, Nat.reduceAdd, arith_add, arith_sub, arith_mul, i64, u64, cas_by, openAt, pinAt, hg, gplace_u, ggive_u, ghelp_u, galloc_u, gdrop_u, gaccess_u, gact_u, glst_u, gmem_u, actStep, inStep, workStep, Work.out, galloc_u, gdrop_u, gaccess_u, hp, reduceIte, if_true, if_false, not_true, not_false_iff, Classical.not_not, true_and, and_true, false_and, and_false, true_or, or_true, false_or, or_false, Bool.not_true, Bool.not_false, Bool.and_true, Bool.and_false, Bool.false_and, Bool.true_and, decide_true, decide_false, Int.reduceEq, Bool.false_eq_true, Bool.true_eq_false]; done)
    | (simp only [mAct, stepSp, doneSp, e4, actS, actAlloc, actDrop, actAccess, optG, optH, optP, xi, xu, xb, SV.den, S2.den, S1.den, cellsDen, List.map, iE, uE, bE, E.den, sg_f1, sg_f2, sg_f3, sg_f4, f1_0, f1_1, f1_2, f1_3, f1_4, f1_5, f1_6, f1_60, f1_61, f1_62, f1_63, f1_64, f1_65, f1_66, f1_67, f1_68, f1_69, f1_70, f1_71, f2_20, f3_3, f4_10, f4_30, f4_31, f4_32, f4_33, f4_34, f4_35, f4_36, f4_37, f4_38, f4_40, f4_41, f4_42, O1.ap, O3.ap, ap_arith, ap_bits, ap_div, ap_shift, ap_eql, ap_lss, ap_beq, ap_min, ap_max, ap_nthI, ap_nthB, ap_inI, ap_inB, G.toInt_int, G.toBool_bool, G.toInts_ints, ltI_t, ltI_f, inN_t, inN_f, and_true, Nat.zero_add, Nat.reduceAdd, arith_add, arith_sub, arith_mul, i64, u64, cas_by, openAt, pinAt, hg, gplace_u, ggive_u, ghelp_u, galloc_u, gdrop_u, gaccess_u, gact_u, glst_u, gmem_u, actStep, inStep, workStep, Work.out, galloc_u, gdrop_u, gaccess_u]; simp [hp]; done)
    | (simp only [mAct, stepSp, doneSp, e4, actS, actAlloc, actDrop, actAccess, optG, optH, optP, xi, xu, xb, SV.den, S2.den, S1.den, cellsDen, List.map, iE, uE, bE, E.den, sg_f1, sg_f2, sg_f3, sg_f4, f1_0, f1_1, f1_2, f1_3, f1_4, f1_5, f1_6, f1_60, f1_61, f1_62, f1_63, f1_64, f1_65, f1_66, f1_67, f1_68, f1_69, f1_70, f1_71, f2_20, f3_3, f4_10, f4_30, f4_31, f4_32, f4_33, f4_34, f4_35, f4_36, f4_37, f4_38, f4_40, f4_41, f4_42, O1.ap, O3.ap, ap_arith, ap_bits, ap_div, ap_shift, ap_eql, ap_lss, ap_beq, ap_min, ap_max, ap_nthI, ap_nthB, ap_inI, ap_inB, G.toInt_int, G.toBool_bool, G.toInts_ints, ltI_t, ltI_f, inN_t, inN_f, and_true, Nat.zero_add, Nat.reduceAdd, arith_add, arith_sub, arith_mul, i64, u64, cas_by, openAt, pinAt, hg, gplace_u, ggive_u, ghelp_u, galloc_u, gdrop_u, gaccess_u, gact_u, glst_u, gmem_u, actStep, inStep, workStep, Work.out, galloc_u, gdrop_u, gaccess_u]; simp_all; done)
    | (exfalso; omega)
    | skip

theorem mActDone_ok : mActDone.t.ok SG prog 109 := by
  refine MSpec.ok tm5_ok mActDone rfl (by kernel_rfl) (
  allS_cons ⟨[⟨true, .one (.agg [xi 13, xu 14, xi 15, xi 16]), [(4, .res 4 (.var 17)), (1, .cells (ch (cell1 actAlloc 10 2) []))], 41, []⟩], by as_aux_lemma => kernel_rfl,
    allC_cons (way0 actAlloc (by simp [kinds, actAlloc, actDrop, actAccess]) (fun j => match j with  | j => .var (j + 10)) (fun j => match j with | 2 => 4 | 1 => 1 | _ => 0) (by kernel_rfl) rfl rfl ?_) <|
    allC_nil _⟩ <|
  allS_cons ⟨[⟨true, .one (.agg [xi 13, xu 14, xi 15, xi 16]), [(4, .res 5 (.var 17)), (1, .cells (ch (cell1 actDrop 10 2) []))], 41, []⟩], by as_aux_lemma => kernel_rfl,
    allC_cons (way0 actDrop (by simp [kinds, actAlloc, actDrop, actAccess]) (fun j => match j with  | j => .var (j + 10)) (fun j => match j with | 2 => 4 | 1 => 1 | _ => 0) (by kernel_rfl) rfl rfl ?_) <|
    allC_nil _⟩ <|
  allS_cons ⟨[⟨true, .one (.agg [xi 13, xu 14, xi 15, xi 16]), [(4, .res 6 (.var 17)), (1, .cells (ch (cell1 actAccess 10 2) []))], 41, []⟩], by as_aux_lemma => kernel_rfl,
    allC_cons (way0 actAccess (by simp [kinds, actAlloc, actDrop, actAccess]) (fun j => match j with  | j => .var (j + 10)) (fun j => match j with | 2 => 4 | 1 => 1 | _ => 0) (by kernel_rfl) rfl rfl ?_) <|
    allC_nil _⟩ <|
  allS_nil _)
  all_goals as_aux_lemma =>
    intro n hp hg hi
    simp only [pt_nil, pt_cons, E.den, sg_f1, sg_f2, sg_f3, sg_f4, f1_72, f1_73, f1_74, f1_75, O1.ap, O3.ap, ap_arith, ap_bits, ap_div, ap_shift, ap_eql, ap_lss, ap_beq, ap_min, ap_max, ap_nthI, ap_nthB, ap_inI, ap_inB, G.toInt_int, G.toBool_bool, G.toInts_ints, ltI_t, ltI_f, inN_t, inN_f, and_true, Nat.zero_add, Nat.reduceAdd, arith_add, arith_sub, arith_mul, i64, u64, cas_by, openAt, pinAt, gplace_u, ggive_u, ghelp_u, galloc_u, gdrop_u, gaccess_u, gact_u, glst_u, gmem_u, gactx_u, gquad_u, Bool.not_eq_true', Bool.not_eq_false', beq_iff_eq, beq_eq_false_iff_ne, ne_eq] at hp
    simp only [mActDone, stepSp, doneSp, e4, actS, actAlloc, actDrop, actAccess, optG, optH, optP, sg_f1, sg_f2, sg_f3, sg_f4, f1_72, f1_73, f1_74, f1_75, O1.ap, O3.ap, ap_arith, ap_bits, ap_div, ap_shift, ap_eql, ap_lss, ap_beq, ap_min, ap_max, ap_nthI, ap_nthB, ap_inI, ap_inB, G.toInt_int, G.toBool_bool, G.toInts_ints, ltI_t, ltI_f, inN_t, inN_f, and_true, Nat.zero_add, Nat.reduceAdd, arith_add, arith_sub, arith_mul, i64, u64, cas_by, openAt, pinAt] at hg hi
    first
    | (simp only [mActDone, stepSp, doneSp, e4, actS, actAlloc, actDrop, actAccess, optG, optH, optP, xi, xu, xb, SV.den, S2.den, S1.den, cellsDen, List.map, iE, uE, bE, E.den, sg_f1, sg_f2, sg_f3, sg_f4, f1_72, f1_73, f1_74, f1_75, O1.ap, O3.ap, ap_arith, ap_bits, ap_div, ap_shift, ap_eql, ap_lss, ap_beq, ap_min, ap_max, ap_nthI, ap_nthB, ap_inI, ap_inB, G.toInt_int, G.toBool_bool, G.toInts_ints, ltI_t, ltI_f, inN_t, inN_f, and_true, Nat.zero_add, Nat.reduceAdd, arith_add, arith_sub, arith_mul, i64, u64, cas_by, openAt, pinAt, hg, gplace_u, ggive_u, ghelp_u, galloc_u, gdrop_u, gaccess_u, gact_u, glst_u, gmem_u, actStep, inStep, workStep, Work.out, galloc_u, gdrop_u, gaccess_u, hp, reduceIte, if_true, if_false, not_true, not_false_iff, Classical.not_not, true_and, and_true, false_and, and_false, true_or, or_true, false_or, or_false, Bool.not_true, Bool.not_false, Bool.and_true, Bool.and_false, Bool.false_and, Bool.true_and, decide_true, decide_false, Int.reduceEq, Bool.false_eq_true, Bool.true_eq_false]; done)
    | (simp only [mActDone, stepSp, doneSp, e4, actS, actAlloc, actDrop, actAccess, optG, optH, optP, xi, xu, xb, SV.den, S2.den, S1.den, cellsDen, List.map, iE, uE, bE, E.den, sg_f1, sg_f2, sg_f3, sg_f4, f1_72, f1_73, f1_74, f1_75, O1.ap, O3.ap, ap_arith, ap_bits, ap_div, ap_shift, ap_eql, ap_lss, ap_beq, ap_min, ap_max, ap_nthI, ap_nthB, ap_inI, ap_inB, G.toInt_int, G.toBool_bool, G.toInts_ints, ltI_t, ltI_f, inN_t, inN_f, and_true, Nat.zero_add, Nat.reduceAdd, arith_add, arith_sub, arith_mul, i64, u64, cas_by, openAt, pinAt, hg, gplace_u, ggive_u, ghelp_u, galloc_u, gdrop_u, gaccess_u, gact_u, glst_u, gmem_u, actStep, inStep, workStep, Work.out, galloc_u, gdrop_u, gaccess_u]; simp [hp]; done)
    | (simp only [mActDone, stepSp, doneSp, e4, actS, actAlloc, actDrop, actAccess, optG, optH, optP, xi, xu, xb, SV.den, S2.den, S1.den, cellsDen, List.map, iE, uE, bE, E.den, sg_f1, sg_f2, sg_f3, sg_f4, f1_72, f1_73, f1_74, f1_75, O1.ap, O3.ap, ap_arith, ap_bits, ap_div, ap_shift, ap_eql, ap_lss, ap_beq, ap_min, ap_max, ap_nthI, ap_nthB, ap_inI, ap_inB, G.toInt_int, G.toBool_bool, G.toInts_ints, ltI_t, ltI_f, inN_t, inN_f, and_true, Nat.zero_add, Nat.reduceAdd, arith_add, arith_sub, arith_mul, i64, u64, cas_by, openAt, pinAt, hg, gplace_u, ggive_u, ghelp_u, galloc_u, gdrop_u, gaccess_u, gact_u, glst_u, gmem_u, actStep, inStep, workStep, Work.out, galloc_u, gdrop_u, gaccess_u]; simp_all; done)
    | (exfalso; omega)
    | skip

end Go.Fl

/- Templates, level 7: a fresh act. -/
namespace Go.Fl
open Go Go.Sx
variable [ExtF]

def ts6 : List (Nat × Tmpl) := [(108, mAct.t), (109, mActDone.t)]
theorem ts6_ok : AllT ts6 := allT_cons mAct_ok <| allT_cons mActDone_ok allT_nil

/-- a wish of a known kind: size 1, handle 2, index 3, value 4, old 5, own 6 -/
def wishE (k : Int) : E := .f4 51 (.f4 50 (.int k) (.var 1) (.var 2) (.var 3)) (.var 4) (.var 5) (.var 6)
def newOuts (k : Int) (id : Nat) : List OutS :=
  [⟨.tup [.c .nilp, .c (.int .i64 (.int 1))], none, 3, [(.f1 90 (wishE k), false)]⟩,
   ⟨.tup [.c (.ptr id (.int 0)), .c (.int .i64 (.int 0))], some (id, 7, .f1 91 (wishE k)), id + 1, [(.f1 90 (wishE k), true)]⟩]
def newAct (k : Int) (id : Nat) : Tmpl := ⟨[.one (.agg [.int .i64 (.int k), xi 1, xu 2, xi 3, xi 4, xi 5, xb 6])], [], 1, (newOuts k id).map OutS.co⟩
def tm6 : CH := tmOf (ts6 ++ (ts5 ++ (49, tOf) :: (ts4 ++ (ts3 ++ (ts2 ++ ts1)))))
theorem tm6_ok : CallOK SG prog tm6 := tmOf_ok (allT_app ts6_ok (allT_app ts5_ok (allT_cons tOf_ok (allT_app ts4_ok (allT_app ts3_ok (allT_app ts2_ok ts1_ok))))))

theorem news_ok {k : Int} {id : Nat} {cs : List CO} (hcs : callX tab tm6 20 20 106 (newAct k id).args [] 1 [] = some cs)
    (h : AllC cs fun c => ∀ v : V, PT SG v c.pa → ∃ x ∈ newOuts k id, PT SG v x.pa ∧ EndOK L NK v c x.ret x.root []) : (newAct k id).ok SG prog 106 := by
  refine Tmpl.plains (L := L) (N := NK) (outs := newOuts k id) tab_ok tm6_ok rfl (fun x hx r j e0 hr => ?_) ⟨cs, hcs, h⟩
  have hj : j = 7 := by
    rcases List.mem_cons.1 hx with rfl | hx
    · simp at hr
    · rw [List.mem_singleton.1 hx] at hr
      simp only [Option.some.injEq, Prod.mk.injEq] at hr
      exact hr.2.1.symm
  subst hj
  refine ⟨by decide, fun sh hsh => ?_⟩
  have := kinds_ok 7 sh hsh
  simp only [shapeB, Bool.and_eq_true] at this
  exact ⟨this.1.1.1, this.2⟩

theorem new_no {k : Int} {id : Nat} {c : CO} (hc : c.ok = true) (hr : c.ret = .tup [.c .nilp, .c (.int .i64 (.int 1))]) (h : ∀ v : V, PT SG v c.pa → (E.den SG v (.f1 90 (wishE k))).toBool = false) :
    ∀ v : V, PT SG v c.pa → ∃ x ∈ newOuts k id, PT SG v x.pa ∧ EndOK L NK v c x.ret x.root [] := fun v hp =>
  ⟨_, .head _, (pt_cons v _ _ _).2 ⟨h v hp, (pt_nil v).2 trivial⟩, endOK_none hc (fun n hn => by rw [hr]) rest_nil⟩
theorem new_yes {k : Int} {id : Nat} {c : CO} (sh : Shape U) (hsh : sh ∈ kinds 7) (σ : Nat → E) (τ : Nat → Nat) (hfit : foldFit sh.H σ τ c.H = true) (hc : c.ok = true) (hr : τ 1 = id)
    (hret : c.ret = .tup [.c (.ptr id (.int 0)), .c (.int .i64 (.int 0))])
    (h : ∀ v : V, PT SG v c.pa → (E.den SG v (.f1 90 (wishE k))).toBool = true ∧ sh.inv (fun j => (σ j).den SG v) ∧ E.den SG v (.f1 91 (wishE k)) = sh.enc (fun j => (σ j).den SG v)) :
    ∀ v : V, PT SG v c.pa → ∃ x ∈ newOuts k id, PT SG v x.pa ∧ EndOK L NK v c x.ret x.root [] := fun v hp =>
  ⟨_, .tail _ (.head _), (pt_cons v _ _ _).2 ⟨(h v hp).1, (pt_nil v).2 trivial⟩,
    endOK_fold hc (fun n hn => by rw [hret]) sh hsh σ τ hfit hr (h v hp).2.2 (h v hp).2.1 rest_nil⟩
end Go.Fl

/- Templates, level 7, shown. -/
namespace Go.Fl
open Go Go.Sx Go.Proofs
variable [ExtF]
set_option linter.unusedSimpArgs false
set_option maxRecDepth 100000
set_option maxHeartbeats 2000000

theorem newAct1_ok : (newAct 1 5).ok SG prog 106 := by
  refine news_ok (cs := [⟨true, .tup [.c (.nilp), .c (.int .i64 (.int 1))], [], 3, [((.o2 .lss (.var 4) (.int 0)), true)]⟩,
    ⟨true, .tup [.c (.nilp), .c (.int .i64 (.int 1))], [], 3, [((.o2 .lss (.int 1099511627775) (.var 4)), true), ((.o2 .lss (.var 4) (.int 0)), false)]⟩,
    ⟨true, .tup [.c (.nilp), .c (.int .i64 (.int 1))], [], 3, [((.o2 .lss (.var 5) (.int 0)), true), ((.o2 .lss (.int 1099511627775) (.var 4)), false), ((.o2 .lss (.var 4) (.int 0)), false)]⟩,
    ⟨true, .tup [.c (.nilp), .c (.int .i64 (.int 1))], [], 3, [((.o2 .lss (.int 1099511627775) (.var 5)), true), ((.o2 .lss (.var 5) (.int 0)), false), ((.o2 .lss (.int 1099511627775) (.var 4)), false), ((.o2 .lss (.var 4) (.int 0)), false)]⟩,
    ⟨true, .tup [.c (.ptr 5 (.int 0)), .c (.int .i64 (.int 0))], [(5, .cells [.int .i64 (.int 0), .int .u64 (.int 0), .int .i64 (.int 0), .ifp 290 4 (.int 0), .int .i64 (.int 0), .int .u64 (.int 0), .int .i64 (.int 0), .int .i64 (.int 0)]), (4, .res 4 (.f2 30 (.var 1) (.var 6)))], 6, [((.o2 .lss (.int 1099511627775) (.var 5)), false), ((.o2 .lss (.var 5) (.int 0)), false), ((.o2 .lss (.int 1099511627775) (.var 4)), false), ((.o2 .lss (.var 4) (.int 0)), false)]⟩]) (by kernel_rfl) (
    allC_cons (new_no rfl rfl ?_) <|
    allC_cons (new_no rfl rfl ?_) <|
    allC_cons (new_no rfl rfl ?_) <|
    allC_cons (new_no rfl rfl ?_) <|
    allC_cons (new_yes actAlloc (by simp [kinds, actAlloc, actDrop, actAccess]) (fun j => match j with | 0 => (.int 0) | 1 => (.int 0) | 2 => (.int 0) | 3 => (.int 0) | 4 => (.int 0) | 5 => (.int 0) | 6 => (.int 0) | 7 => (.f2 30 (.var 1) (.var 6)) | _ => .int 0) (fun j => match j with | 2 => 4 | 1 => 5 | _ => 0) (by kernel_rfl) rfl rfl rfl ?_) <|
    allC_nil _)
  all_goals
    intro v hp
    simp only [pt_nil, pt_cons, E.den, sg_f1, sg_f2, sg_f3, sg_f4, f1_0, f1_1, f1_2, f1_3, f1_4, f1_5, f1_6, f1_10, f1_11, f1_12, f1_20, f1_21, f1_22, f1_23, f1_24, f1_25, f1_26, f1_27, f1_28, f1_29, f1_30, f1_31, f1_32, f1_33, f1_34, f1_35, f1_36, f1_37, f1_38, f1_39, f1_40, f1_41, f1_42, f1_43, f1_44, f1_45, f1_50, f1_51, f1_52, f1_53, f1_54, f1_60, f1_61, f1_62, f1_63, f1_64, f1_65, f1_66, f1_67, f1_68, f1_69, f1_70, f1_71, f1_72, f1_73, f1_74, f1_75, f1_76, f1_77, f1_78, f1_79, f1_90, f1_91, f1_80, f1_81, f1_92, f1_93, f1_94, f1_100, f1_101, f1_102, f1_103, f1_104, f1_96, f1_97, f1_98, f1_105, f1_106, f1_107, f1_108, f2_0, f2_1, f2_2, f2_3, f2_10, f2_11, f2_12, f2_20, f2_21, f2_22, f2_30, f2_31, f2_40, f2_23, f2_24, f2_41, f2_90, f2_60, f2_61, f2_62, f3_0, f3_1, f3_2, f3_3, f3_4, f3_7, f3_8, f3_60, f3_61, f3_62, f3_63, f3_5, f3_6, f4_0, f4_1, f4_2, f4_10, f4_11, f4_12, f4_20, f4_21, f4_22, f4_23, f4_24, f4_25, f4_26, f4_27, f4_28, f4_30, f4_31, f4_32, f4_33, f4_34, f4_35, f4_36, f4_37, f4_38, f4_40, f4_41, f4_42, f4_51, f4_50, f4_60, f4_43, f4_44, f4_45, O1.ap, O3.ap, ap_arith, ap_bits, ap_div, ap_shift, ap_eql, ap_lss, ap_beq, ap_min, ap_max, ap_nthI, ap_nthB, ap_inI, ap_inB, G.toInt_int, G.toBool_bool, G.toInts_ints, ltI_t, ltI_f, inN_t, inN_f, and_true, Nat.zero_add, Nat.reduceAdd, arith_add, arith_sub, arith_mul, i64, u64, cas_by, openAt, pinAt, Bool.not_eq_true', Bool.not_eq_false', beq_iff_eq, beq_eq_false_iff_ne, ne_eq] at hp
    simp only [wishE, actAlloc, actDrop, actAccess, actS, actNew, actWork, actCheck, gactx_u, gquad_u, galloc_u, gdrop_u, gaccess_u, xi, xu, xb, SV.den, S2.den, S1.den, cellsDen, List.map, iE, uE, bE, E.den, sg_f1, sg_f2, sg_f3, sg_f4, f1_0, f1_1, f1_2, f1_3, f1_4, f1_5, f1_6, f1_10, f1_11, f1_12, f1_20, f1_21, f1_22, f1_23, f1_24, f1_25, f1_26, f1_27, f1_28, f1_29, f1_30, f1_31, f1_32, f1_33, f1_34, f1_35, f1_36, f1_37, f1_38, f1_39, f1_40, f1_41, f1_42, f1_43, f1_44, f1_45, f1_50, f1_51, f1_52, f1_53, f1_54, f1_60, f1_61, f1_62, f1_63, f1_64, f1_65, f1_66, f1_67, f1_68, f1_69, f1_70, f1_71, f1_72, f1_73, f1_74, f1_75, f1_76, f1_77, f1_78, f1_79, f1_90, f1_91, f1_80, f1_81, f1_92, f1_93, f1_94, f1_100, f1_101, f1_102, f1_103, f1_104, f1_96, f1_97, f1_98, f1_105, f1_106, f1_107, f1_108, f2_0, f2_1, f2_2, f2_3, f2_10, f2_11, f2_12, f2_20, f2_21, f2_22, f2_30, f2_31, f2_40, f2_23, f2_24, f2_41, f2_90, f2_60, f2_61, f2_62, f3_0, f3_1, f3_2, f3_3, f3_4, f3_7, f3_8, f3_60, f3_61, f3_62, f3_63, f3_5, f3_6, f4_0, f4_1, f4_2, f4_10, f4_11, f4_12, f4_20, f4_21, f4_22, f4_23, f4_24, f4_25, f4_26, f4_27, f4_28, f4_30, f4_31, f4_32, f4_33, f4_34, f4_35, f4_36, f4_37, f4_38, f4_40, f4_41, f4_42, f4_51, f4_50, f4_60, f4_43, f4_44, f4_45, O1.ap, O3.ap, ap_arith, ap_bits, ap_div, ap_shift, ap_eql, ap_lss, ap_beq, ap_min, ap_max, ap_nthI, ap_nthB, ap_inI, ap_inB, G.toInt_int, G.toBool_bool, G.toInts_ints, ltI_t, ltI_f, inN_t, inN_f, and_true, Nat.zero_add, Nat.reduceAdd, arith_add, arith_sub, arith_mul, i64, u64, cas_by, openAt, pinAt]
    simp [hp, ltI, accessNew] <;> decide

theorem newAct2_ok : (newAct 2 5).ok SG prog 106 := by
  refine news_ok (cs := [⟨true, .tup [.c (.nilp), .c (.int .i64 (.int 1))], [], 3, [((.o2 .lss (.var 4) (.int 0)), true)]⟩,
    ⟨true, .tup [.c (.nilp), .c (.int .i64 (.int 1))], [], 3, [((.o2 .lss (.int 1099511627775) (.var 4)), true), ((.o2 .lss (.var 4) (.int 0)), false)]⟩,
    ⟨true, .tup [.c (.nilp), .c (.int .i64 (.int 1))], [], 3, [((.o2 .lss (.var 5) (.int 0)), true), ((.o2 .lss (.int 1099511627775) (.var 4)), false), ((.o2 .lss (.var 4) (.int 0)), false)]⟩,
    ⟨true, .tup [.c (.nilp), .c (.int .i64 (.int 1))], [], 3, [((.o2 .lss (.int 1099511627775) (.var 5)), true), ((.o2 .lss (.var 5) (.int 0)), false), ((.o2 .lss (.int 1099511627775) (.var 4)), false), ((.o2 .lss (.var 4) (.int 0)), false)]⟩,
    ⟨true, .tup [.c (.ptr 5 (.int 0)), .c (.int .i64 (.int 0))], [(5, .cells [.int .i64 (.int 0), .int .u64 (.int 0), .int .i64 (.int 0), .ifp 292 4 (.int 0), .int .i64 (.int 0), .int .u64 (.int 0), .int .i64 (.int 0), .int .i64 (.int 0)]), (4, .res 5 (.f2 31 (.var 2) (.var 6)))], 6, [((.o2 .lss (.int 1099511627775) (.var 5)), false), ((.o2 .lss (.var 5) (.int 0)), false), ((.o2 .lss (.int 1099511627775) (.var 4)), false), ((.o2 .lss (.var 4) (.int 0)), false)]⟩]) (by kernel_rfl) (
    allC_cons (new_no rfl rfl ?_) <|
    allC_cons (new_no rfl rfl ?_) <|
    allC_cons (new_no rfl rfl ?_) <|
    allC_cons (new_no rfl rfl ?_) <|
    allC_cons (new_yes actDrop (by simp [kinds, actAlloc, actDrop, actAccess]) (fun j => match j with | 0 => (.int 0) | 1 => (.int 0) | 2 => (.int 0) | 3 => (.int 0) | 4 => (.int 0) | 5 => (.int 0) | 6 => (.int 0) | 7 => (.f2 31 (.var 2) (.var 6)) | _ => .int 0) (fun j => match j with | 2 => 4 | 1 => 5 | _ => 0) (by kernel_rfl) rfl rfl rfl ?_) <|
    allC_nil _)
  all_goals
    intro v hp
    simp only [pt_nil, pt_cons, E.den, sg_f1, sg_f2, sg_f3, sg_f4, f1_0, f1_1, f1_2, f1_3, f1_4, f1_5, f1_6, f1_10, f1_11, f1_12, f1_20, f1_21, f1_22, f1_23, f1_24, f1_25, f1_26, f1_27, f1_28, f1_29, f1_30, f1_31, f1_32, f1_33, f1_34, f1_35, f1_36, f1_37, f1_38, f1_39, f1_40, f1_41, f1_42, f1_43, f1_44, f1_45, f1_50, f1_51, f1_52, f1_53, f1_54, f1_60, f1_61, f1_62, f1_63, f1_64, f1_65, f1_66, f1_67, f1_68, f1_69, f1_70, f1_71, f1_72, f1_73, f1_74, f1_75, f1_76, f1_77, f1_78, f1_79, f1_90, f1_91, f1_80, f1_81, f1_92, f1_93, f1_94, f1_100, f1_101, f1_102, f1_103, f1_104, f1_96, f1_97, f1_98, f1_105, f1_106, f1_107, f1_108, f2_0, f2_1, f2_2, f2_3, f2_10, f2_11, f2_12, f2_20, f2_21, f2_22, f2_30, f2_31, f2_40, f2_23, f2_24, f2_41, f2_90, f2_60, f2_61, f2_62, f3_0, f3_1, f3_2, f3_3, f3_4, f3_7, f3_8, f3_60, f3_61, f3_62, f3_63, f3_5, f3_6, f4_0, f4_1, f4_2, f4_10, f4_11, f4_12, f4_20, f4_21, f4_22, f4_23, f4_24, f4_25, f4_26, f4_27, f4_28, f4_30, f4_31, f4_32, f4_33, f4_34, f4_35, f4_36, f4_37, f4_38, f4_40, f4_41, f4_42, f4_51, f4_50, f4_60, f4_43, f4_44, f4_45, O1.ap, O3.ap, ap_arith, ap_bits, ap_div, ap_shift, ap_eql, ap_lss, ap_beq, ap_min, ap_max, ap_nthI, ap_nthB, ap_inI, ap_inB, G.toInt_int, G.toBool_bool, G.toInts_ints, ltI_t, ltI_f, inN_t, inN_f, and_true, Nat.zero_add, Nat.reduceAdd, arith_add, arith_sub, arith_mul, i64, u64, cas_by, openAt, pinAt, Bool.not_eq_true', Bool.not_eq_false', beq_iff_eq, beq_eq_false_iff_ne, ne_eq] at hp
    simp only [wishE, actAlloc, actDrop, actAccess, actS, actNew, actWork, actCheck, gactx_u, gquad_u, galloc_u, gdrop_u, gaccess_u, xi, xu, xb, SV.den, S2.den, S1.den, cellsDen, List.map, iE, uE, bE, E.den, sg_f1, sg_f2, sg_f3, sg_f4, f1_0, f1_1, f1_2, f1_3, f1_4, f1_5, f1_6, f1_10, f1_11, f1_12, f1_20, f1_21, f1_22, f1_23, f1_24, f1_25, f1_26, f1_27, f1_28, f1_29, f1_30, f1_31, f1_32, f1_33, f1_34, f1_35, f1_36, f1_37, f1_38, f1_39, f1_40, f1_41, f1_42, f1_43, f1_44, f1_45, f1_50, f1_51, f1_52, f1_53, f1_54, f1_60, f1_61, f1_62, f1_63, f1_64, f1_65, f1_66, f1_67, f1_68, f1_69, f1_70, f1_71, f1_72, f1_73, f1_74, f1_75, f1_76, f1_77, f1_78, f1_79, f1_90, f1_91, f1_80, f1_81, f1_92, f1_93, f1_94, f1_100, f1_101, f1_102, f1_103, f1_104, f1_96, f1_97, f1_98, f1_105, f1_106, f1_107, f1_108, f2_0, f2_1, f2_2, f2_3, f2_10, f2_11, f2_12, f2_20, f2_21, f2_22, f2_30, f2_31, f2_40, f2_23, f2_24, f2_41, f2_90, f2_60, f2_61, f2_62, f3_0, f3_1, f3_2, f3_3, f3_4, f3_7, f3_8, f3_60, f3_61, f3_62, f3_63, f3_5, f3_6, f4_0, f4_1, f4_2, f4_10, f4_11, f4_12, f4_20, f4_21, f4_22, f4_23, f4_24, f4_25, f4_26, f4_27, f4_28, f4_30, f4_31, f4_32, f4_33, f4_34, f4_35, f4_36, f4_37, f4_38, f4_40, f4_41, f4_42, f4_51, f4_50, f4_60, f4_43, f4_44, f4_45, O1.ap, O3.ap, ap_arith, ap_bits, ap_div, ap_shift, ap_eql, ap_lss, ap_beq, ap_min, ap_max, ap_nthI, ap_nthB, ap_inI, ap_inB, G.toInt_int, G.toBool_bool, G.toInts_ints, ltI_t, ltI_f, inN_t, inN_f, and_true, Nat.zero_add, Nat.reduceAdd, arith_add, arith_sub, arith_mul, i64, u64, cas_by, openAt, pinAt]
    simp [hp, ltI, accessNew] <;> decide

theorem newAct3_ok : (newAct 3 6).ok SG prog 106 := by
  refine news_ok (cs := [⟨true, .tup [.c (.nilp), .c (.int .i64 (.int 1))], [], 3, [((.o2 .lss (.var 4) (.int 0)), true)]⟩,
    ⟨true, .tup [.c (.nilp), .c (.int .i64 (.int 1))], [], 3, [((.o2 .lss (.int 1099511627775) (.var 4)), true), ((.o2 .lss (.var 4) (.int 0)), false)]⟩,
    ⟨true, .tup [.c (.nilp), .c (.int .i64 (.int 1))], [], 3, [((.o2 .lss (.var 5) (.int 0)), true), ((.o2 .lss (.int 1099511627775) (.var 4)), false), ((.o2 .lss (.var 4) (.int 0)), false)]⟩,
    ⟨true, .tup [.c (.nilp), .c (.int .i64 (.int 1))], [], 3, [((.o2 .lss (.int 1099511627775) (.var 5)), true), ((.o2 .lss (.var 5) (.int 0)), false), ((.o2 .lss (.int 1099511627775) (.var 4)), false), ((.o2 .lss (.var 4) (.int 0)), false)]⟩,
    ⟨true, .tup [.c (.ptr 6 (.int 0)), .c (.int .i64 (.int 0))], [(6, .cells [.int .i64 (.int 0), .int .u64 (.int 0), .int .i64 (.int 0), .ifp 294 5 (.int 0), .int .i64 (.int 0), .int .u64 (.int 0), .int .i64 (.int 0), .int .i64 (.int 0)]), (5, .res 6 (.f3 6 (.f4 50 (.int 1) (.var 2) (.var 3) (.var 4)) (.var 5) (.var 6)))], 7, [((.o2 .lss (.int 1099511627775) (.var 5)), false), ((.o2 .lss (.var 5) (.int 0)), false), ((.o2 .lss (.int 1099511627775) (.var 4)), false), ((.o2 .lss (.var 4) (.int 0)), false)]⟩]) (by kernel_rfl) (
    allC_cons (new_no rfl rfl ?_) <|
    allC_cons (new_no rfl rfl ?_) <|
    allC_cons (new_no rfl rfl ?_) <|
    allC_cons (new_no rfl rfl ?_) <|
    allC_cons (new_yes actAccess (by simp [kinds, actAlloc, actDrop, actAccess]) (fun j => match j with | 0 => (.int 0) | 1 => (.int 0) | 2 => (.int 0) | 3 => (.int 0) | 4 => (.int 0) | 5 => (.int 0) | 6 => (.int 0) | 7 => (.f3 6 (.f4 50 (.int 1) (.var 2) (.var 3) (.var 4)) (.var 5) (.var 6)) | _ => .int 0) (fun j => match j with | 2 => 5 | 1 => 6 | _ => 0) (by kernel_rfl) rfl rfl rfl ?_) <|
    allC_nil _)
  all_goals
    intro v hp
    simp only [pt_nil, pt_cons, E.den, sg_f1, sg_f2, sg_f3, sg_f4, f1_0, f1_1, f1_2, f1_3, f1_4, f1_5, f1_6, f1_10, f1_11, f1_12, f1_20, f1_21, f1_22, f1_23, f1_24, f1_25, f1_26, f1_27, f1_28, f1_29, f1_30, f1_31, f1_32, f1_33, f1_34, f1_35, f1_36, f1_37, f1_38, f1_39, f1_40, f1_41, f1_42, f1_43, f1_44, f1_45, f1_50, f1_51, f1_52, f1_53, f1_54, f1_60, f1_61, f1_62, f1_63, f1_64, f1_65, f1_66, f1_67, f1_68, f1_69, f1_70, f1_71, f1_72, f1_73, f1_74, f1_75, f1_76, f1_77, f1_78, f1_79, f1_90, f1_91, f1_80, f1_81, f1_92, f1_93, f1_94, f1_100, f1_101, f1_102, f1_103, f1_104, f1_96, f1_97, f1_98, f1_105, f1_106, f1_107, f1_108, f2_0, f2_1, f2_2, f2_3, f2_10, f2_11, f2_12, f2_20, f2_21, f2_22, f2_30, f2_31, f2_40, f2_23, f2_24, f2_41, f2_90, f2_60, f2_61, f2_62, f3_0, f3_1, f3_2, f3_3, f3_4, f3_7, f3_8, f3_60, f3_61, f3_62, f3_63, f3_5, f3_6, f4_0, f4_1, f4_2, f4_10, f4_11, f4_12, f4_20, f4_21, f4_22, f4_23, f4_24, f4_25, f4_26, f4_27, f4_28, f4_30, f4_31, f4_32, f4_33, f4_34, f4_35, f4_36, f4_37, f4_38, f4_40, f4_41, f4_42, f4_51, f4_50, f4_60, f4_43, f4_44, f4_45, O1.ap, O3.ap, ap_arith, ap_bits, ap_div, ap_shift, ap_eql, ap_lss, ap_beq, ap_min, ap_max, ap_nthI, ap_nthB, ap_inI, ap_inB, G.toInt_int, G.toBool_bool, G.toInts_ints, ltI_t, ltI_f, inN_t, inN_f, and_true, Nat.zero_add, Nat.reduceAdd, arith_add, arith_sub, arith_mul, i64, u64, cas_by, openAt, pinAt, Bool.not_eq_true', Bool.not_eq_false', beq_iff_eq, beq_eq_false_iff_ne, ne_eq] at hp
    simp only [wishE, actAlloc, actDrop, actAccess, actS, actNew, actWork, actCheck, gactx_u, gquad_u, galloc_u, gdrop_u, gaccess_u, xi, xu, xb, SV.den, S2.den, S1.den, cellsDen, List.map, iE, uE, bE, E.den, sg_f1, sg_f2, sg_f3, sg_f4, f1_0, f1_1, f1_2, f1_3, f1_4, f1_5, f1_6, f1_10, f1_11, f1_12, f1_20, f1_21, f1_22, f1_23, f1_24, f1_25, f1_26, f1_27, f1_28, f1_29, f1_30, f1_31, f1_32, f1_33, f1_34, f1_35, f1_36, f1_37, f1_38, f1_39, f1_40, f1_41, f1_42, f1_43, f1_44, f1_45, f1_50, f1_51, f1_52, f1_53, f1_54, f1_60, f1_61, f1_62, f1_63, f1_64, f1_65, f1_66, f1_67, f1_68, f1_69, f1_70, f1_71, f1_72, f1_73, f1_74, f1_75, f1_76, f1_77, f1_78, f1_79, f1_90, f1_91, f1_80, f1_81, f1_92, f1_93, f1_94, f1_100, f1_101, f1_102, f1_103, f1_104, f1_96, f1_97, f1_98, f1_105, f1_106, f1_107, f1_108, f2_0, f2_1, f2_2, f2_3, f2_10, f2_11, f2_12, f2_20, f2_21, f2_22, f2_30, f2_31, f2_40, f2_23, f2_24, f2_41, f2_90, f2_60, f2_61, f2_62, f3_0, f3_1, f3_2, f3_3, f3_4, f3_7, f3_8, f3_60, f3_61, f3_62, f3_63, f3_5, f3_6, f4_0, f4_1, f4_2, f4_10, f4_11, f4_12, f4_20, f4_21, f4_22, f4_23, f4_24, f4_25, f4_26, f4_27, f4_28, f4_30, f4_31, f4_32, f4_33, f4_34, f4_35, f4_36, f4_37, f4_38, f4_40, f4_41, f4_42, f4_51, f4_50, f4_60, f4_43, f4_44, f4_45, O1.ap, O3.ap, ap_arith, ap_bits, ap_div, ap_shift, ap_eql, ap_lss, ap_beq, ap_min, ap_max, ap_nthI, ap_nthB, ap_inI, ap_inB, G.toInt_int, G.toBool_bool, G.toInts_ints, ltI_t, ltI_f, inN_t, inN_f, and_true, Nat.zero_add, Nat.reduceAdd, arith_add, arith_sub, arith_mul, i64, u64, cas_by, openAt, pinAt]
    simp [hp, ltI, accessNew] <;> decide

theorem newAct4_ok : (newAct 4 6).ok SG prog 106 := by
  refine news_ok (cs := [⟨true, .tup [.c (.nilp), .c (.int .i64 (.int 1))], [], 3, [((.o2 .lss (.var 4) (.int 0)), true)]⟩,
    ⟨true, .tup [.c (.nilp), .c (.int .i64 (.int 1))], [], 3, [((.o2 .lss (.int 1099511627775) (.var 4)), true), ((.o2 .lss (.var 4) (.int 0)), false)]⟩,
    ⟨true, .tup [.c (.nilp), .c (.int .i64 (.int 1))], [], 3, [((.o2 .lss (.var 5) (.int 0)), true), ((.o2 .lss (.int 1099511627775) (.var 4)), false), ((.o2 .lss (.var 4) (.int 0)), false)]⟩,
    ⟨true, .tup [.c (.nilp), .c (.int .i64 (.int 1))], [], 3, [((.o2 .lss (.int 1099511627775) (.var 5)), true), ((.o2 .lss (.var 5) (.int 0)), false), ((.o2 .lss (.int 1099511627775) (.var 4)), false), ((.o2 .lss (.var 4) (.int 0)), false)]⟩,
    ⟨true, .tup [.c (.ptr 6 (.int 0)), .c (.int .i64 (.int 0))], [(6, .cells [.int .i64 (.int 0), .int .u64 (.int 0), .int .i64 (.int 0), .ifp 294 5 (.int 0), .int .i64 (.int 0), .int .u64 (.int 0), .int .i64 (.int 0), .int .i64 (.int 0)]), (5, .res 6 (.f3 6 (.f4 50 (.int 2) (.var 2) (.var 3) (.var 4)) (.var 5) (.var 6)))], 7, [((.o2 .lss (.int 1099511627775) (.var 5)), false), ((.o2 .lss (.var 5) (.int 0)), false), ((.o2 .lss (.int 1099511627775) (.var 4)), false), ((.o2 .lss (.var 4) (.int 0)), false)]⟩]) (by kernel_rfl) (
    allC_cons (new_no rfl rfl ?_) <|
    allC_cons (new_no rfl rfl ?_) <|
    allC_cons (new_no rfl rfl ?_) <|
    allC_cons (new_no rfl rfl ?_) <|
    allC_cons (new_yes actAccess (by simp [kinds, actAlloc, actDrop, actAccess]) (fun j => match j with | 0 => (.int 0) | 1 => (.int 0) | 2 => (.int 0) | 3 => (.int 0) | 4 => (.int 0) | 5 => (.int 0) | 6 => (.int 0) | 7 => (.f3 6 (.f4 50 (.int 2) (.var 2) (.var 3) (.var 4)) (.var 5) (.var 6)) | _ => .int 0) (fun j => match j with | 2 => 5 | 1 => 6 | _ => 0) (by kernel_rfl) rfl rfl rfl ?_) <|
    allC_nil _)
  all_goals
    intro v hp
    simp only [pt_nil, pt_cons, E.den, sg_f1, sg_f2, sg_f3, sg_f4, f1_0, f1_1, f1_2, f1_3, f1_4, f1_5, f1_6, f1_10, f1_11, f1_12, f1_20, f1_21, f1_22, f1_23, f1_24, f1_25, f1_26, f1_27, f1_28, f1_29, f1_30, f1_31, f1_32, f1_33, f1_34, f1_35, f1_36, f1_37, f1_38, f1_39, f1_40, f1_41, f1_42, f1_43, f1_44, f1_45, f1_50, f1_51, f1_52, f1_53, f1_54, f1_60, f1_61, f1_62, f1_63, f1_64, f1_65, f1_66, f1_67, f1_68, f1_69, f1_70, f1_71, f1_72, f1_73, f1_74, f1_75, f1_76, f1_77, f1_78, f1_79, f1_90, f1_91, f1_80, f1_81, f1_92, f1_93, f1_94, f1_100, f1_101, f1_102, f1_103, f1_104, f1_96, f1_97, f1_98, f1_105, f1_106, f1_107, f1_108, f2_0, f2_1, f2_2, f2_3, f2_10, f2_11, f2_12, f2_20, f2_21, f2_22, f2_30, f2_31, f2_40, f2_23, f2_24, f2_41, f2_90, f2_60, f2_61, f2_62, f3_0, f3_1, f3_2, f3_3, f3_4, f3_7, f3_8, f3_60, f3_61, f3_62, f3_63, f3_5, f3_6, f4_0, f4_1, f4_2, f4_10, f4_11, f4_12, f4_20, f4_21, f4_22, f4_23, f4_24, f4_25, f4_26, f4_27, f4_28, f4_30, f4_31, f4_32, f4_33, f4_34, f4_35, f4_36, f4_37, f4_38, f4_40, f4_41, f4_42, f4_51, f4_50, f4_60, f4_43, f4_44, f4_45, O1.ap, O3.ap, ap_arith, ap_bits, ap_div, ap_shift, ap_eql, ap_lss, ap_beq, ap_min, ap_max, ap_nthI, ap_nthB, ap_inI, ap_inB, G.toInt_int, G.toBool_bool, G.toInts_ints, ltI_t, ltI_f, inN_t, inN_f, and_true, Nat.zero_add, Nat.reduceAdd, arith_add, arith_sub, arith_mul, i64, u64, cas_by, openAt, pinAt, Bool.not_eq_true', Bool.not_eq_false', beq_iff_eq, beq_eq_false_iff_ne, ne_eq] at hp
    simp only [wishE, actAlloc, actDrop, actAccess, actS, actNew, actWork, actCheck, gactx_u, gquad_u, galloc_u, gdrop_u, gaccess_u, xi, xu, xb, SV.den, S2.den, S1.den, cellsDen, List.map, iE, uE, bE, E.den, sg_f1, sg_f2, sg_f3, sg_f4, f1_0, f1_1, f1_2, f1_3, f1_4, f1_5, f1_6, f1_10, f1_11, f1_12, f1_20, f1_21, f1_22, f1_23, f1_24, f1_25, f1_26, f1_27, f1_28, f1_29, f1_30, f1_31, f1_32, f1_33, f1_34, f1_35, f1_36, f1_37, f1_38, f1_39, f1_40, f1_41, f1_42, f1_43, f1_44, f1_45, f1_50, f1_51, f1_52, f1_53, f1_54, f1_60, f1_61, f1_62, f1_63, f1_64, f1_65, f1_66, f1_67, f1_68, f1_69, f1_70, f1_71, f1_72, f1_73, f1_74, f1_75, f1_76, f1_77, f1_78, f1_79, f1_90, f1_91, f1_80, f1_81, f1_92, f1_93, f1_94, f1_100, f1_101, f1_102, f1_103, f1_104, f1_96, f1_97, f1_98, f1_105, f1_106, f1_107, f1_108, f2_0, f2_1, f2_2, f2_3, f2_10, f2_11, f2_12, f2_20, f2_21, f2_22, f2_30, f2_31, f2_40, f2_23, f2_24, f2_41, f2_90, f2_60, f2_61, f2_62, f3_0, f3_1, f3_2, f3_3, f3_4, f3_7, f3_8, f3_60, f3_61, f3_62, f3_63, f3_5, f3_6, f4_0, f4_1, f4_2, f4_10, f4_11, f4_12, f4_20, f4_21, f4_22, f4_23, f4_24, f4_25, f4_26, f4_27, f4_28, f4_30, f4_31, f4_32, f4_33, f4_34, f4_35, f4_36, f4_37, f4_38, f4_40, f4_41, f4_42, f4_51, f4_50, f4_60, f4_43, f4_44, f4_45, O1.ap, O3.ap, ap_arith, ap_bits, ap_div, ap_shift, ap_eql, ap_lss, ap_beq, ap_min, ap_max, ap_nthI, ap_nthB, ap_inI, ap_inB, G.toInt_int, G.toBool_bool, G.toInts_ints, ltI_t, ltI_f, inN_t, inN_f, and_true, Nat.zero_add, Nat.reduceAdd, arith_add, arith_sub, arith_mul, i64, u64, cas_by, openAt, pinAt]
    simp [hp, ltI, accessNew] <;> decide

theorem newAct5_ok : (newAct 5 6).ok SG prog 106 := by
  refine news_ok (cs := [⟨true, .tup [.c (.nilp), .c (.int .i64 (.int 1))], [], 3, [((.o2 .lss (.var 4) (.int 0)), true)]⟩,
    ⟨true, .tup [.c (.nilp), .c (.int .i64 (.int 1))], [], 3, [((.o2 .lss (.int 1099511627775) (.var 4)), true), ((.o2 .lss (.var 4) (.int 0)), false)]⟩,
    ⟨true, .tup [.c (.nilp), .c (.int .i64 (.int 1))], [], 3, [((.o2 .lss (.var 5) (.int 0)), true), ((.o2 .lss (.int 1099511627775) (.var 4)), false), ((.o2 .lss (.var 4) (.int 0)), false)]⟩,
    ⟨true, .tup [.c (.nilp), .c (.int .i64 (.int 1))], [], 3, [((.o2 .lss (.int 1099511627775) (.var 5)), true), ((.o2 .lss (.var 5) (.int 0)), false), ((.o2 .lss (.int 1099511627775) (.var 4)), false), ((.o2 .lss (.var 4) (.int 0)), false)]⟩,
    ⟨true, .tup [.c (.ptr 6 (.int 0)), .c (.int .i64 (.int 0))], [(6, .cells [.int .i64 (.int 0), .int .u64 (.int 0), .int .i64 (.int 0), .ifp 294 5 (.int 0), .int .i64 (.int 0), .int .u64 (.int 0), .int .i64 (.int 0), .int .i64 (.int 0)]), (5, .res 6 (.f3 6 (.f4 50 (.int 3) (.var 2) (.var 3) (.var 4)) (.var 5) (.var 6)))], 7, [((.o2 .lss (.int 1099511627775) (.var 5)), false), ((.o2 .lss (.var 5) (.int 0)), false), ((.o2 .lss (.int 1099511627775) (.var 4)), false), ((.o2 .lss (.var 4) (.int 0)), false)]⟩]) (by kernel_rfl) (
    allC_cons (new_no rfl rfl ?_) <|
    allC_cons (new_no rfl rfl ?_) <|
    allC_cons (new_no rfl rfl ?_) <|
    allC_cons (new_no rfl rfl ?_) <|
    allC_cons (new_yes actAccess (by simp [kinds, actAlloc, actDrop, actAccess]) (fun j => match j with | 0 => (.int 0) | 1 => (.int 0) | 2 => (.int 0) | 3 => (.int 0) | 4 => (.int 0) | 5 => (.int 0) | 6 => (.int 0) | 7 => (.f3 6 (.f4 50 (.int 3) (.var 2) (.var 3) (.var 4)) (.var 5) (.var 6)) | _ => .int 0) (fun j => match j with | 2 => 5 | 1 => 6 | _ => 0) (by kernel_rfl) rfl rfl rfl ?_) <|
    allC_nil _)
  all_goals
    intro v hp
    simp only [pt_nil, pt_cons, E.den, sg_f1, sg_f2, sg_f3, sg_f4, f1_0, f1_1, f1_2, f1_3, f1_4, f1_5, f1_6, f1_10, f1_11, f1_12, f1_20, f1_21, f1_22, f1_23, f1_24, f1_25, f1_26, f1_27, f1_28, f1_29, f1_30, f1_31, f1_32, f1_33, f1_34, f1_35, f1_36, f1_37, f1_38, f1_39, f1_40, f1_41, f1_42, f1_43, f1_44, f1_45, f1_50, f1_51, f1_52, f1_53, f1_54, f1_60, f1_61, f1_62, f1_63, f1_64, f1_65, f1_66, f1_67, f1_68, f1_69, f1_70, f1_71, f1_72, f1_73, f1_74, f1_75, f1_76, f1_77, f1_78, f1_79, f1_90, f1_91, f1_80, f1_81, f1_92, f1_93, f1_94, f1_100, f1_101, f1_102, f1_103, f1_104, f1_96, f1_97, f1_98, f1_105, f1_106, f1_107, f1_108, f2_0, f2_1, f2_2, f2_3, f2_10, f2_11, f2_12, f2_20, f2_21, f2_22, f2_30, f2_31, f2_40, f2_23, f2_24, f2_41, f2_90, f2_60, f2_61, f2_62, f3_0, f3_1, f3_2, f3_3, f3_4, f3_7, f3_8, f3_60, f3_61, f3_62, f3_63, f3_5, f3_6, f4_0, f4_1, f4_2, f4_10, f4_11, f4_12, f4_20, f4_21, f4_22, f4_23, f4_24, f4_25, f4_26, f4_27, f4_28, f4_30, f4_31, f4_32, f4_33, f4_34, f4_35, f4_36, f4_37, f4_38, f4_40, f4_41, f4_42, f4_51, f4_50, f4_60, f4_43, f4_44, f4_45, O1.ap, O3.ap, ap_arith, ap_bits, ap_div, ap_shift, ap_eql, ap_lss, ap_beq, ap_min, ap_max, ap_nthI, ap_nthB, ap_inI, ap_inB, G.toInt_int, G.toBool_bool, G.toInts_ints, ltI_t, ltI_f, inN_t, inN_f, and_true, Nat.zero_add, Nat.reduceAdd, arith_add, arith_sub, arith_mul, i64, u64, cas_by, openAt, pinAt, Bool.not_eq_true', Bool.not_eq_false', beq_iff_eq, beq_eq_false_iff_ne, ne_eq] at hp
    simp only [wishE, actAlloc, actDrop, actAccess, actS, actNew, actWork, actCheck, gactx_u, gquad_u, galloc_u, gdrop_u, gaccess_u, xi, xu, xb, SV.den, S2.den, S1.den, cellsDen, List.map, iE, uE, bE, E.den, sg_f1, sg_f2, sg_f3, sg_f4, f1_0, f1_1, f1_2, f1_3, f1_4, f1_5, f1_6, f1_10, f1_11, f1_12, f1_20, f1_21, f1_22, f1_23, f1_24, f1_25, f1_26, f1_27, f1_28, f1_29, f1_30, f1_31, f1_32, f1_33, f1_34, f1_35, f1_36, f1_37, f1_38, f1_39, f1_40, f1_41, f1_42, f1_43, f1_44, f1_45, f1_50, f1_51, f1_52, f1_53, f1_54, f1_60, f1_61, f1_62, f1_63, f1_64, f1_65, f1_66, f1_67, f1_68, f1_69, f1_70, f1_71, f1_72, f1_73, f1_74, f1_75, f1_76, f1_77, f1_78, f1_79, f1_90, f1_91, f1_80, f1_81, f1_92, f1_93, f1_94, f1_100, f1_101, f1_102, f1_103, f1_104, f1_96, f1_97, f1_98, f1_105, f1_106, f1_107, f1_108, f2_0, f2_1, f2_2, f2_3, f2_10, f2_11, f2_12, f2_20, f2_21, f2_22, f2_30, f2_31, f2_40, f2_23, f2_24, f2_41, f2_90, f2_60, f2_61, f2_62, f3_0, f3_1, f3_2, f3_3, f3_4, f3_7, f3_8, f3_60, f3_61, f3_62, f3_63, f3_5, f3_6, f4_0, f4_1, f4_2, f4_10, f4_11, f4_12, f4_20, f4_21, f4_22, f4_23, f4_24, f4_25, f4_26, f4_27, f4_28, f4_30, f4_31, f4_32, f4_33, f4_34, f4_35, f4_36, f4_37, f4_38, f4_40, f4_41, f4_42, f4_51, f4_50, f4_60, f4_43, f4_44, f4_45, O1.ap, O3.ap, ap_arith, ap_bits, ap_div, ap_shift, ap_eql, ap_lss, ap_beq, ap_min, ap_max, ap_nthI, ap_nthB, ap_inI, ap_inB, G.toInt_int, G.toBool_bool, G.toInts_ints, ltI_t, ltI_f, inN_t, inN_f, and_true, Nat.zero_add, Nat.reduceAdd, arith_add, arith_sub, arith_mul, i64, u64, cas_by, openAt, pinAt]
    simp [hp, ltI, accessNew] <;> decide

end Go.Fl

/- Templates, level 8: the list. -/
namespace Go.Fl
open Go Go.Sx
variable [ExtF]

def ts7 : List (Nat × Tmpl) := [(106, newAct 1 5), (106, newAct 2 5), (106, newAct 3 6), (106, newAct 4 6), (106, newAct 5 6)]
theorem ts7_ok : AllT ts7 := allT_cons newAct1_ok <| allT_cons newAct2_ok <| allT_cons newAct3_ok <| allT_cons newAct4_ok <| allT_cons newAct5_ok allT_nil
def tm7 : CH := tmOf (ts7 ++ (ts6 ++ (ts5 ++ (49, tOf) :: (ts4 ++ (ts3 ++ (ts2 ++ ts1))))))
theorem tm7_ok : CallOK SG prog tm7 := tmOf_ok (allT_app ts7_ok (allT_app ts6_ok (allT_app ts5_ok (allT_cons tOf_ok (allT_app ts4_ok (allT_app ts3_ok (allT_app ts2_ok ts1_ok)))))))

def mList : MSpec := stepSp 8 43
def mListDone : MSpec := doneSp 8 76
def specs8 : List (String × Nat × MSpec) := [("mListDone", 37, mListDone), ("mList", 36, mList)]
end Go.Fl
