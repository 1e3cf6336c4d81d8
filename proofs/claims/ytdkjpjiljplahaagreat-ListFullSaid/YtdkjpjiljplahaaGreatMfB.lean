/- Templates, level 5, shown. -/
import Derived.Test.YtdkjpjiljplahaaGreatMe
namespace Go.Fl
open Go Go.Sx Go.Proofs
variable [ExtF]
set_option linter.unusedSimpArgs false
set_option maxRecDepth 100000
set_option maxHeartbeats 2000000

abbrev z5Drop0 : E := .f1 10 (.var 10)
abbrev z5Drop1 : E := .f2 0 (.var 2) z5Drop0
abbrev z5Drop2 : E := .f3 3 (.var 1) (.var 3) z5Drop1
abbrev z5Drop3 : E := .f1 11 (.var 10)
abbrev z5Drop4 : E := .f2 20 (.var 1) z5Drop1
abbrev z5Drop5 : E := .f3 1 (.f1 20 z5Drop4) (.f1 22 z5Drop4) z5Drop3
abbrev z5Drop6 : E := .o2 .lss z5Drop0 (.f1 1 (.var 2))
abbrev z5Drop7 : E := .f1 12 (.var 10)
abbrev z5Drop8 : E := .o2 .eql (.var 14) (.int 0)
abbrev z5Drop9 : E := .f1 41 z5Drop2
abbrev z5Drop10 : E := .f1 41 (.var 1)
abbrev z5Drop11 : E := .f1 21 (.var 15)
abbrev z5Drop12 : E := .f2 20 (.var 1) z5Drop11
abbrev z5Drop13 : E := .f1 29 z5Drop12
abbrev z5Drop14 : E := .f3 4 (.var 12) (.var 15) z5Drop13
abbrev z5Drop15 : E := .f3 3 (.var 1) (.var 3) z5Drop11
abbrev z5Drop16 : E := .o2 .eql (.f1 20 (.var 15)) (.int 4)
abbrev z5Drop17 : E := .o2 .beq (.f1 32 z5Drop12) (.var 11)
abbrev z5Drop18 : E := .o2 .eql (.var 14) (.int 1)
abbrev z5Drop19 : E := .f1 41 z5Drop15
abbrev z5Drop20 : E := .f4 0 (.int 4) z5Drop11 (.f1 22 (.var 15)) (.o2 (.arith .add .i64) (.f1 23 (.var 15)) (.int 1))
abbrev z5Drop21 : E := .f3 4 (.var 12) z5Drop20 (.var 16)
abbrev z5Drop22 : E := .f2 0 (.var 2) (.var 12)
abbrev z5Drop23 : E := .f4 12 (.f2 22 (.var 1) (.var 3)) z5Drop22 (.var 15) z5Drop20
abbrev z5Drop24 : E := .f3 2 (.var 1) z5Drop22 (.var 15)
abbrev z5Drop25 : E := .o2 .eql (.var 14) (.int 2)
abbrev z5Drop26 : E := .o2 .eql (.var 14) (.int 3)
abbrev z5Drop27 : E := .o2 .eql (.var 14) (.int 4)
abbrev z5Drop28 : E := .o1 .not (.o2 .lss (.var 13) (.f1 4 (.var 2)))
abbrev z5Drop29 : E := .f1 51 (.var 12)
abbrev z5Drop30 : E := .f4 11 (.var 1) (.var 3) (.o2 (.arith .add .i64) (.f2 1 (.var 2) (.f2 3 (.var 2) z5Drop11)) (.int 1)) (.o2 (.arith .sub .i64) (.int 0) (.f1 39 (.f1 38 (.var 16))))
abbrev z5Drop31 : E := .o2 .eql (.var 14) (.int 5)
abbrev z5Drop32 : E := .f4 26 (.var 28) (.var 1) (.var 2) (.var 3)
abbrev z5Drop33 : E := .f4 27 (.var 28) (.var 1) (.var 2) (.var 3)
abbrev z5Drop34 : E := .f2 21 z5Drop33 z5Drop22
abbrev z5Drop35 : E := .f4 28 (.var 28) (.var 1) (.var 2) (.var 3)
abbrev z5Drop36 : E := .f4 25 (.var 29) (.var 1) (.var 2) (.var 3)
abbrev z5Drop37 : E := .f4 23 (.var 29) (.var 1) (.var 2) (.var 3)
abbrev z5Drop38 : E := .f4 24 (.var 29) (.var 1) (.var 2) (.var 3)
abbrev z5Dropp39 : Path := [(z5Drop8, true)]
abbrev z5Dropp40 : Path := (z5Drop7, true) :: z5Dropp39
abbrev z5Dropp41 : Path := (z5Drop6, true) :: z5Dropp40
abbrev z5Dropp42 : Path := (z5Drop5, true) :: z5Dropp41
abbrev z5Dropp43 : Path := (z5Drop5, false) :: z5Dropp41
abbrev z5Dropp44 : Path := (z5Drop6, false) :: z5Dropp40
abbrev z5Dropp45 : Path := (z5Drop7, false) :: z5Dropp39
abbrev z5Dropp46 : Path := [(z5Drop8, false)]
abbrev z5Dropp47 : Path := (z5Drop18, true) :: z5Dropp46
abbrev z5Dropp48 : Path := (z5Drop17, true) :: z5Dropp47
abbrev z5Dropp49 : Path := (z5Drop16, true) :: z5Dropp48
abbrev z5Dropp50 : Path := (z5Drop16, false) :: z5Dropp48
abbrev z5Dropp51 : Path := (z5Drop17, false) :: z5Dropp47
abbrev z5Dropp52 : Path := (z5Drop18, false) :: z5Dropp46
abbrev z5Dropp53 : Path := (z5Drop25, true) :: z5Dropp52
abbrev z5Dropp54 : Path := (z5Drop24, true) :: z5Dropp53
abbrev z5Dropp55 : Path := (z5Drop24, false) :: z5Dropp53
abbrev z5Dropp56 : Path := (z5Drop25, false) :: z5Dropp52
abbrev z5Dropp57 : Path := (z5Drop26, true) :: z5Dropp56
abbrev z5Dropp58 : Path := (z5Drop26, false) :: z5Dropp56
abbrev z5Dropp59 : Path := (z5Drop27, true) :: z5Dropp58
abbrev z5Dropp60 : Path := (z5Drop27, false) :: z5Dropp58
abbrev z5Dropp61 : Path := (z5Drop31, true) :: z5Dropp60
abbrev z5Dropp62 : Path := (z5Drop31, false) :: z5Dropp60
abbrev z5Dropp63 : Path := (z5Drop35, true) :: z5Dropp57
abbrev z5Dropp64 : Path := (z5Drop35, false) :: z5Dropp57
abbrev z5Dropp65 : Path := (z5Drop35, true) :: z5Dropp59
abbrev z5Dropp66 : Path := (z5Drop35, false) :: z5Dropp59
theorem mDrop_ok : mDrop.t.ok SG prog 349 := by
  refine MSpec.ok tm4_ok mDrop rfl (by kernel_rfl) (
  allS_cons ⟨[⟨true, .one (.c (.bool (.bool false))), [(2, .res 0 z5Drop2), (1, .cells (ch (cell1 (dropS false false) 10 3) [(2, .int .i64 z5Drop0), (3, .int .i64 z5Drop3), (4, .int .i64 (.int 1)), (5, .int .u64 z5Drop4)]))], 71, z5Dropp42⟩,
    ⟨true, .one (.c (.bool (.bool true))), [(2, .res 0 z5Drop2), (1, .cells (ch (cell1 (dropS false false) 10 3) [(2, .int .i64 z5Drop0), (3, .int .i64 z5Drop3), (5, .int .u64 z5Drop4), (9, .int .i64 (.int 3)), (10, .int .u64 (.int 0)), (11, .int .i64 (.int 0)), (12, .int .i64 z5Drop9)]))], 72, z5Dropp43⟩,
    ⟨true, .one (.c (.bool (.bool true))), [(2, .res 0 (.var 1)), (1, .cells (ch (cell1 (dropS false false) 10 3) [(2, .int .i64 z5Drop0), (3, .int .i64 z5Drop3), (9, .int .i64 (.int 3)), (10, .int .u64 (.int 0)), (11, .int .i64 (.int 0)), (12, .int .i64 z5Drop10)]))], 53, z5Dropp44⟩,
    ⟨true, .one (.c (.bool (.bool true))), [(2, .res 0 (.var 1)), (1, .cells (ch (cell1 (dropS false false) 10 3) [(2, .int .i64 z5Drop0), (3, .int .i64 z5Drop3), (9, .int .i64 (.int 3)), (10, .int .u64 (.int 0)), (11, .int .i64 (.int 0)), (12, .int .i64 z5Drop10)]))], 53, z5Dropp45⟩,
    ⟨true, .one (.c (.bool (.bool false))), [(90, .res 3 z5Drop14), (2, .res 0 z5Drop15), (1, .cells (ch (cell1 (dropS false false) 10 3) [(4, .int .i64 (.int 4)), (6, .int .i64 z5Drop13), (7, .ptr 90 (.int 0))]))], 91, z5Dropp49⟩,
    ⟨true, .one (.c (.bool (.bool false))), [(2, .res 0 z5Drop15), (1, .cells (ch (cell1 (dropS false false) 10 3) [(4, .int .i64 (.int 2)), (6, .int .i64 z5Drop13)]))], 68, z5Dropp50⟩,
    ⟨true, .one (.c (.bool (.bool true))), [(2, .res 0 z5Drop15), (1, .cells (ch (cell1 (dropS false false) 10 3) [(9, .int .i64 (.int 3)), (10, .int .u64 (.int 0)), (11, .int .i64 (.int 0)), (12, .int .i64 z5Drop19)]))], 69, z5Dropp51⟩,
    ⟨true, .one (.c (.bool (.bool false))), [(86, .res 3 z5Drop21), (2, .res 0 z5Drop23), (1, .cells (ch (cell1 (dropS false false) 10 3) [(4, .int .i64 (.int 3)), (7, .ptr 86 (.int 0))]))], 87, z5Dropp54⟩,
    ⟨true, .one (.c (.bool (.bool false))), [(2, .res 0 z5Drop23), (1, .cells (ch (cell1 (dropS false false) 10 3) [(4, .int .i64 (.int 0))]))], 67, z5Dropp55⟩,
    ⟨true, .one (.c (.bool (.bool false))), [(2, .res 0 (.var 1)), (1, .cells (ch (cell1 (dropS false false) 10 3) []))], 57, z5Dropp57⟩,
    ⟨true, .one (.c (.bool (.bool false))), [(2, .res 0 (.var 1)), (1, .cells (ch (cell1 (dropS false false) 10 3) []))], 57, z5Dropp59⟩,
    ⟨true, .one (.c (.bool z5Drop28)), [(74, .res 2 z5Drop29), (2, .res 0 z5Drop30), (1, .cells (ch (cell1 (dropS false false) 10 3) [(4, .int .i64 (.int 6)), (8, .ptr 74 (.int 0))]))], 85, z5Dropp61⟩,
    ⟨true, .one (.c (.bool (.bool false))), [(2, .res 0 (.var 1)), (1, .cells (ch (cell1 (dropS false false) 10 3) []))], 58, z5Dropp62⟩], by as_aux_lemma => kernel_rfl,
    allC_cons (way1 (dropS false false) (by simp [kinds]) (fun j => match j with | 2 => z5Drop0 | 3 => z5Drop3 | 4 => (.int 1) | 5 => z5Drop4 | j => .var (j + 10)) (fun j => match j with | 1 => 1 | _ => 0) (by kernel_rfl) rfl rfl rfl (by kernel_rfl) ?_) <|
    allC_cons (way1 (dropS false false) (by simp [kinds]) (fun j => match j with | 2 => z5Drop0 | 3 => z5Drop3 | 5 => z5Drop4 | 7 => (.int 3) | 8 => (.int 0) | 9 => (.int 0) | 10 => z5Drop9 | j => .var (j + 10)) (fun j => match j with | 1 => 1 | _ => 0) (by kernel_rfl) rfl rfl rfl (by kernel_rfl) ?_) <|
    allC_cons (way1 (dropS false false) (by simp [kinds]) (fun j => match j with | 2 => z5Drop0 | 3 => z5Drop3 | 7 => (.int 3) | 8 => (.int 0) | 9 => (.int 0) | 10 => z5Drop10 | j => .var (j + 10)) (fun j => match j with | 1 => 1 | _ => 0) (by kernel_rfl) rfl rfl rfl (by kernel_rfl) ?_) <|
    allC_cons (way1 (dropS false false) (by simp [kinds]) (fun j => match j with | 2 => z5Drop0 | 3 => z5Drop3 | 7 => (.int 3) | 8 => (.int 0) | 9 => (.int 0) | 10 => z5Drop10 | j => .var (j + 10)) (fun j => match j with | 1 => 1 | _ => 0) (by kernel_rfl) rfl rfl rfl (by kernel_rfl) ?_) <|
    allC_cons (way1 (dropS true false) (by simp [kinds]) (fun j => match j with | 4 => (.int 4) | 6 => z5Drop13 | 18 => z5Drop14 | j => .var (j + 10)) (fun j => match j with | 2 => 90 | 1 => 1 | _ => 0) (by kernel_rfl) rfl rfl rfl (by kernel_rfl) ?_) <|
    allC_cons (way1 (dropS false false) (by simp [kinds]) (fun j => match j with | 4 => (.int 2) | 6 => z5Drop13 | j => .var (j + 10)) (fun j => match j with | 1 => 1 | _ => 0) (by kernel_rfl) rfl rfl rfl (by kernel_rfl) ?_) <|
    allC_cons (way1 (dropS false false) (by simp [kinds]) (fun j => match j with | 7 => (.int 3) | 8 => (.int 0) | 9 => (.int 0) | 10 => z5Drop19 | j => .var (j + 10)) (fun j => match j with | 1 => 1 | _ => 0) (by kernel_rfl) rfl rfl rfl (by kernel_rfl) ?_) <|
    allC_cons (way1 (dropS true false) (by simp [kinds]) (fun j => match j with | 4 => (.int 3) | 18 => z5Drop21 | j => .var (j + 10)) (fun j => match j with | 2 => 86 | 1 => 1 | _ => 0) (by kernel_rfl) rfl rfl rfl (by kernel_rfl) ?_) <|
    allC_cons (way1 (dropS false false) (by simp [kinds]) (fun j => match j with | 4 => (.int 0) | j => .var (j + 10)) (fun j => match j with | 1 => 1 | _ => 0) (by kernel_rfl) rfl rfl rfl (by kernel_rfl) ?_) <|
    allC_cons (way1 (dropS false false) (by simp [kinds]) (fun j => match j with  | j => .var (j + 10)) (fun j => match j with | 1 => 1 | _ => 0) (by kernel_rfl) rfl rfl rfl (by kernel_rfl) ?_) <|
    allC_cons (way1 (dropS false false) (by simp [kinds]) (fun j => match j with  | j => .var (j + 10)) (fun j => match j with | 1 => 1 | _ => 0) (by kernel_rfl) rfl rfl rfl (by kernel_rfl) ?_) <|
    allC_cons (way1 (dropS false true) (by simp [kinds]) (fun j => match j with | 4 => (.int 6) | 19 => z5Drop29 | j => .var (j + 10)) (fun j => match j with | 3 => 74 | 1 => 1 | _ => 0) (by kernel_rfl) rfl rfl rfl (by kernel_rfl) ?_) <|
    allC_cons (way1 (dropS false false) (by simp [kinds]) (fun j => match j with  | j => .var (j + 10)) (fun j => match j with | 1 => 1 | _ => 0) (by kernel_rfl) rfl rfl rfl (by kernel_rfl) ?_) <|
    allC_nil _⟩ <|
  allS_cons ⟨[⟨true, .one (.c (.bool (.bool false))), [(5, .res 3 (.var 28)), (2, .res 0 z5Drop2), (1, .cells (ch (cell1 (dropS true false) 10 3) [(2, .int .i64 z5Drop0), (3, .int .i64 z5Drop3), (4, .int .i64 (.int 1)), (5, .int .u64 z5Drop4)]))], 71, z5Dropp42⟩,
    ⟨true, .one (.c (.bool (.bool true))), [(5, .res 3 (.var 28)), (2, .res 0 z5Drop2), (1, .cells (ch (cell1 (dropS true false) 10 3) [(2, .int .i64 z5Drop0), (3, .int .i64 z5Drop3), (5, .int .u64 z5Drop4), (9, .int .i64 (.int 3)), (10, .int .u64 (.int 0)), (11, .int .i64 (.int 0)), (12, .int .i64 z5Drop9)]))], 72, z5Dropp43⟩,
    ⟨true, .one (.c (.bool (.bool true))), [(5, .res 3 (.var 28)), (2, .res 0 (.var 1)), (1, .cells (ch (cell1 (dropS true false) 10 3) [(2, .int .i64 z5Drop0), (3, .int .i64 z5Drop3), (9, .int .i64 (.int 3)), (10, .int .u64 (.int 0)), (11, .int .i64 (.int 0)), (12, .int .i64 z5Drop10)]))], 53, z5Dropp44⟩,
    ⟨true, .one (.c (.bool (.bool true))), [(5, .res 3 (.var 28)), (2, .res 0 (.var 1)), (1, .cells (ch (cell1 (dropS true false) 10 3) [(2, .int .i64 z5Drop0), (3, .int .i64 z5Drop3), (9, .int .i64 (.int 3)), (10, .int .u64 (.int 0)), (11, .int .i64 (.int 0)), (12, .int .i64 z5Drop10)]))], 53, z5Dropp45⟩,
    ⟨true, .one (.c (.bool (.bool false))), [(90, .res 3 z5Drop14), (5, .res 3 (.var 28)), (2, .res 0 z5Drop15), (1, .cells (ch (cell1 (dropS true false) 10 3) [(4, .int .i64 (.int 4)), (6, .int .i64 z5Drop13), (7, .ptr 90 (.int 0))]))], 91, z5Dropp49⟩,
    ⟨true, .one (.c (.bool (.bool false))), [(5, .res 3 (.var 28)), (2, .res 0 z5Drop15), (1, .cells (ch (cell1 (dropS true false) 10 3) [(4, .int .i64 (.int 2)), (6, .int .i64 z5Drop13)]))], 68, z5Dropp50⟩,
    ⟨true, .one (.c (.bool (.bool true))), [(5, .res 3 (.var 28)), (2, .res 0 z5Drop15), (1, .cells (ch (cell1 (dropS true false) 10 3) [(9, .int .i64 (.int 3)), (10, .int .u64 (.int 0)), (11, .int .i64 (.int 0)), (12, .int .i64 z5Drop19)]))], 69, z5Dropp51⟩,
    ⟨true, .one (.c (.bool (.bool false))), [(86, .res 3 z5Drop21), (5, .res 3 (.var 28)), (2, .res 0 z5Drop23), (1, .cells (ch (cell1 (dropS true false) 10 3) [(4, .int .i64 (.int 3)), (7, .ptr 86 (.int 0))]))], 87, z5Dropp54⟩,
    ⟨true, .one (.c (.bool (.bool false))), [(5, .res 3 (.var 28)), (2, .res 0 z5Drop23), (1, .cells (ch (cell1 (dropS true false) 10 3) [(4, .int .i64 (.int 0))]))], 67, z5Dropp55⟩,
    ⟨true, .one (.c (.bool (.bool false))), [(5, .res 3 z5Drop32), (2, .res 0 z5Drop33), (1, .cells (ch (cell1 (dropS true false) 10 3) [(4, .int .i64 (.int 5)), (9, .int .i64 (.int 0)), (10, .int .u64 (.int 0)), (11, .int .i64 (.int 0)), (12, .int .i64 z5Drop34)]))], 56, z5Dropp63⟩,
    ⟨true, .one (.c (.bool (.bool false))), [(5, .res 3 z5Drop32), (2, .res 0 z5Drop33), (1, .cells (ch (cell1 (dropS true false) 10 3) []))], 56, z5Dropp64⟩,
    ⟨true, .one (.c (.bool (.bool false))), [(5, .res 3 z5Drop32), (2, .res 0 z5Drop33), (1, .cells (ch (cell1 (dropS true false) 10 3) [(4, .int .i64 (.int 0))]))], 56, z5Dropp65⟩,
    ⟨true, .one (.c (.bool (.bool false))), [(5, .res 3 z5Drop32), (2, .res 0 z5Drop33), (1, .cells (ch (cell1 (dropS true false) 10 3) []))], 56, z5Dropp66⟩,
    ⟨true, .one (.c (.bool z5Drop28)), [(74, .res 2 z5Drop29), (5, .res 3 (.var 28)), (2, .res 0 z5Drop30), (1, .cells (ch (cell1 (dropS true false) 10 3) [(4, .int .i64 (.int 6)), (8, .ptr 74 (.int 0))]))], 85, z5Dropp61⟩,
    ⟨true, .one (.c (.bool (.bool false))), [(5, .res 3 (.var 28)), (2, .res 0 (.var 1)), (1, .cells (ch (cell1 (dropS true false) 10 3) []))], 58, z5Dropp62⟩], by as_aux_lemma => kernel_rfl,
    allC_cons (way1 (dropS true false) (by simp [kinds]) (fun j => match j with | 2 => z5Drop0 | 3 => z5Drop3 | 4 => (.int 1) | 5 => z5Drop4 | j => .var (j + 10)) (fun j => match j with | 2 => 5 | 1 => 1 | _ => 0) (by kernel_rfl) rfl rfl rfl (by kernel_rfl) ?_) <|
    allC_cons (way1 (dropS true false) (by simp [kinds]) (fun j => match j with | 2 => z5Drop0 | 3 => z5Drop3 | 5 => z5Drop4 | 7 => (.int 3) | 8 => (.int 0) | 9 => (.int 0) | 10 => z5Drop9 | j => .var (j + 10)) (fun j => match j with | 2 => 5 | 1 => 1 | _ => 0) (by kernel_rfl) rfl rfl rfl (by kernel_rfl) ?_) <|
    allC_cons (way1 (dropS true false) (by simp [kinds]) (fun j => match j with | 2 => z5Drop0 | 3 => z5Drop3 | 7 => (.int 3) | 8 => (.int 0) | 9 => (.int 0) | 10 => z5Drop10 | j => .var (j + 10)) (fun j => match j with | 2 => 5 | 1 => 1 | _ => 0) (by kernel_rfl) rfl rfl rfl (by kernel_rfl) ?_) <|
    allC_cons (way1 (dropS true false) (by simp [kinds]) (fun j => match j with | 2 => z5Drop0 | 3 => z5Drop3 | 7 => (.int 3) | 8 => (.int 0) | 9 => (.int 0) | 10 => z5Drop10 | j => .var (j + 10)) (fun j => match j with | 2 => 5 | 1 => 1 | _ => 0) (by kernel_rfl) rfl rfl rfl (by kernel_rfl) ?_) <|
    allC_cons (way1 (dropS true false) (by simp [kinds]) (fun j => match j with | 4 => (.int 4) | 6 => z5Drop13 | 18 => z5Drop14 | j => .var (j + 10)) (fun j => match j with | 2 => 90 | 1 => 1 | _ => 0) (by kernel_rfl) rfl rfl rfl (by kernel_rfl) ?_) <|
    allC_cons (way1 (dropS true false) (by simp [kinds]) (fun j => match j with | 4 => (.int 2) | 6 => z5Drop13 | j => .var (j + 10)) (fun j => match j with | 2 => 5 | 1 => 1 | _ => 0) (by kernel_rfl) rfl rfl rfl (by kernel_rfl) ?_) <|
    allC_cons (way1 (dropS true false) (by simp [kinds]) (fun j => match j with | 7 => (.int 3) | 8 => (.int 0) | 9 => (.int 0) | 10 => z5Drop19 | j => .var (j + 10)) (fun j => match j with | 2 => 5 | 1 => 1 | _ => 0) (by kernel_rfl) rfl rfl rfl (by kernel_rfl) ?_) <|
    allC_cons (way1 (dropS true false) (by simp [kinds]) (fun j => match j with | 4 => (.int 3) | 18 => z5Drop21 | j => .var (j + 10)) (fun j => match j with | 2 => 86 | 1 => 1 | _ => 0) (by kernel_rfl) rfl rfl rfl (by kernel_rfl) ?_) <|
    allC_cons (way1 (dropS true false) (by simp [kinds]) (fun j => match j with | 4 => (.int 0) | j => .var (j + 10)) (fun j => match j with | 2 => 5 | 1 => 1 | _ => 0) (by kernel_rfl) rfl rfl rfl (by kernel_rfl) ?_) <|
    allC_cons (way1 (dropS true false) (by simp [kinds]) (fun j => match j with | 4 => (.int 5) | 7 => (.int 0) | 8 => (.int 0) | 9 => (.int 0) | 10 => z5Drop34 | 18 => z5Drop32 | j => .var (j + 10)) (fun j => match j with | 2 => 5 | 1 => 1 | _ => 0) (by kernel_rfl) rfl rfl rfl (by kernel_rfl) ?_) <|
    allC_cons (way1 (dropS true false) (by simp [kinds]) (fun j => match j with | 18 => z5Drop32 | j => .var (j + 10)) (fun j => match j with | 2 => 5 | 1 => 1 | _ => 0) (by kernel_rfl) rfl rfl rfl (by kernel_rfl) ?_) <|
    allC_cons (way1 (dropS true false) (by simp [kinds]) (fun j => match j with | 4 => (.int 0) | 18 => z5Drop32 | j => .var (j + 10)) (fun j => match j with | 2 => 5 | 1 => 1 | _ => 0) (by kernel_rfl) rfl rfl rfl (by kernel_rfl) ?_) <|
    allC_cons (way1 (dropS true false) (by simp [kinds]) (fun j => match j with | 18 => z5Drop32 | j => .var (j + 10)) (fun j => match j with | 2 => 5 | 1 => 1 | _ => 0) (by kernel_rfl) rfl rfl rfl (by kernel_rfl) ?_) <|
    allC_cons (way1 (dropS true true) (by simp [kinds]) (fun j => match j with | 4 => (.int 6) | 19 => z5Drop29 | j => .var (j + 10)) (fun j => match j with | 2 => 5 | 3 => 74 | 1 => 1 | _ => 0) (by kernel_rfl) rfl rfl rfl (by kernel_rfl) ?_) <|
    allC_cons (way1 (dropS true false) (by simp [kinds]) (fun j => match j with  | j => .var (j + 10)) (fun j => match j with | 2 => 5 | 1 => 1 | _ => 0) (by kernel_rfl) rfl rfl rfl (by kernel_rfl) ?_) <|
    allC_nil _⟩ <|
  allS_cons ⟨[⟨true, .one (.c (.bool (.bool false))), [(6, .res 2 (.var 29)), (2, .res 0 z5Drop2), (1, .cells (ch (cell1 (dropS false true) 10 3) [(2, .int .i64 z5Drop0), (3, .int .i64 z5Drop3), (4, .int .i64 (.int 1)), (5, .int .u64 z5Drop4)]))], 71, z5Dropp42⟩,
    ⟨true, .one (.c (.bool (.bool true))), [(6, .res 2 (.var 29)), (2, .res 0 z5Drop2), (1, .cells (ch (cell1 (dropS false true) 10 3) [(2, .int .i64 z5Drop0), (3, .int .i64 z5Drop3), (5, .int .u64 z5Drop4), (9, .int .i64 (.int 3)), (10, .int .u64 (.int 0)), (11, .int .i64 (.int 0)), (12, .int .i64 z5Drop9)]))], 72, z5Dropp43⟩,
    ⟨true, .one (.c (.bool (.bool true))), [(6, .res 2 (.var 29)), (2, .res 0 (.var 1)), (1, .cells (ch (cell1 (dropS false true) 10 3) [(2, .int .i64 z5Drop0), (3, .int .i64 z5Drop3), (9, .int .i64 (.int 3)), (10, .int .u64 (.int 0)), (11, .int .i64 (.int 0)), (12, .int .i64 z5Drop10)]))], 53, z5Dropp44⟩,
    ⟨true, .one (.c (.bool (.bool true))), [(6, .res 2 (.var 29)), (2, .res 0 (.var 1)), (1, .cells (ch (cell1 (dropS false true) 10 3) [(2, .int .i64 z5Drop0), (3, .int .i64 z5Drop3), (9, .int .i64 (.int 3)), (10, .int .u64 (.int 0)), (11, .int .i64 (.int 0)), (12, .int .i64 z5Drop10)]))], 53, z5Dropp45⟩,
    ⟨true, .one (.c (.bool (.bool false))), [(90, .res 3 z5Drop14), (6, .res 2 (.var 29)), (2, .res 0 z5Drop15), (1, .cells (ch (cell1 (dropS false true) 10 3) [(4, .int .i64 (.int 4)), (6, .int .i64 z5Drop13), (7, .ptr 90 (.int 0))]))], 91, z5Dropp49⟩,
    ⟨true, .one (.c (.bool (.bool false))), [(6, .res 2 (.var 29)), (2, .res 0 z5Drop15), (1, .cells (ch (cell1 (dropS false true) 10 3) [(4, .int .i64 (.int 2)), (6, .int .i64 z5Drop13)]))], 68, z5Dropp50⟩,
    ⟨true, .one (.c (.bool (.bool true))), [(6, .res 2 (.var 29)), (2, .res 0 z5Drop15), (1, .cells (ch (cell1 (dropS false true) 10 3) [(9, .int .i64 (.int 3)), (10, .int .u64 (.int 0)), (11, .int .i64 (.int 0)), (12, .int .i64 z5Drop19)]))], 69, z5Dropp51⟩,
    ⟨true, .one (.c (.bool (.bool false))), [(86, .res 3 z5Drop21), (6, .res 2 (.var 29)), (2, .res 0 z5Drop23), (1, .cells (ch (cell1 (dropS false true) 10 3) [(4, .int .i64 (.int 3)), (7, .ptr 86 (.int 0))]))], 87, z5Dropp54⟩,
    ⟨true, .one (.c (.bool (.bool false))), [(6, .res 2 (.var 29)), (2, .res 0 z5Drop23), (1, .cells (ch (cell1 (dropS false true) 10 3) [(4, .int .i64 (.int 0))]))], 67, z5Dropp55⟩,
    ⟨true, .one (.c (.bool (.bool false))), [(6, .res 2 (.var 29)), (2, .res 0 (.var 1)), (1, .cells (ch (cell1 (dropS false true) 10 3) []))], 57, z5Dropp57⟩,
    ⟨true, .one (.c (.bool (.bool false))), [(6, .res 2 (.var 29)), (2, .res 0 (.var 1)), (1, .cells (ch (cell1 (dropS false true) 10 3) []))], 57, z5Dropp59⟩,
    ⟨true, .one (.c (.bool z5Drop28)), [(74, .res 2 z5Drop29), (6, .res 2 (.var 29)), (2, .res 0 z5Drop30), (1, .cells (ch (cell1 (dropS false true) 10 3) [(4, .int .i64 (.int 6)), (8, .ptr 74 (.int 0))]))], 85, z5Dropp61⟩,
    ⟨true, .one (.c (.bool z5Drop36)), [(6, .res 2 z5Drop37), (2, .res 0 z5Drop38), (1, .cells (ch (cell1 (dropS false true) 10 3) []))], 57, z5Dropp62⟩], by as_aux_lemma => kernel_rfl,
    allC_cons (way1 (dropS false true) (by simp [kinds]) (fun j => match j with | 2 => z5Drop0 | 3 => z5Drop3 | 4 => (.int 1) | 5 => z5Drop4 | j => .var (j + 10)) (fun j => match j with | 3 => 6 | 1 => 1 | _ => 0) (by kernel_rfl) rfl rfl rfl (by kernel_rfl) ?_) <|
    allC_cons (way1 (dropS false true) (by simp [kinds]) (fun j => match j with | 2 => z5Drop0 | 3 => z5Drop3 | 5 => z5Drop4 | 7 => (.int 3) | 8 => (.int 0) | 9 => (.int 0) | 10 => z5Drop9 | j => .var (j + 10)) (fun j => match j with | 3 => 6 | 1 => 1 | _ => 0) (by kernel_rfl) rfl rfl rfl (by kernel_rfl) ?_) <|
    allC_cons (way1 (dropS false true) (by simp [kinds]) (fun j => match j with | 2 => z5Drop0 | 3 => z5Drop3 | 7 => (.int 3) | 8 => (.int 0) | 9 => (.int 0) | 10 => z5Drop10 | j => .var (j + 10)) (fun j => match j with | 3 => 6 | 1 => 1 | _ => 0) (by kernel_rfl) rfl rfl rfl (by kernel_rfl) ?_) <|
    allC_cons (way1 (dropS false true) (by simp [kinds]) (fun j => match j with | 2 => z5Drop0 | 3 => z5Drop3 | 7 => (.int 3) | 8 => (.int 0) | 9 => (.int 0) | 10 => z5Drop10 | j => .var (j + 10)) (fun j => match j with | 3 => 6 | 1 => 1 | _ => 0) (by kernel_rfl) rfl rfl rfl (by kernel_rfl) ?_) <|
    allC_cons (way1 (dropS true true) (by simp [kinds]) (fun j => match j with | 4 => (.int 4) | 6 => z5Drop13 | 18 => z5Drop14 | j => .var (j + 10)) (fun j => match j with | 2 => 90 | 3 => 6 | 1 => 1 | _ => 0) (by kernel_rfl) rfl rfl rfl (by kernel_rfl) ?_) <|
    allC_cons (way1 (dropS false true) (by simp [kinds]) (fun j => match j with | 4 => (.int 2) | 6 => z5Drop13 | j => .var (j + 10)) (fun j => match j with | 3 => 6 | 1 => 1 | _ => 0) (by kernel_rfl) rfl rfl rfl (by kernel_rfl) ?_) <|
    allC_cons (way1 (dropS false true) (by simp [kinds]) (fun j => match j with | 7 => (.int 3) | 8 => (.int 0) | 9 => (.int 0) | 10 => z5Drop19 | j => .var (j + 10)) (fun j => match j with | 3 => 6 | 1 => 1 | _ => 0) (by kernel_rfl) rfl rfl rfl (by kernel_rfl) ?_) <|
    allC_cons (way1 (dropS true true) (by simp [kinds]) (fun j => match j with | 4 => (.int 3) | 18 => z5Drop21 | j => .var (j + 10)) (fun j => match j with | 2 => 86 | 3 => 6 | 1 => 1 | _ => 0) (by kernel_rfl) rfl rfl rfl (by kernel_rfl) ?_) <|
    allC_cons (way1 (dropS false true) (by simp [kinds]) (fun j => match j with | 4 => (.int 0) | j => .var (j + 10)) (fun j => match j with | 3 => 6 | 1 => 1 | _ => 0) (by kernel_rfl) rfl rfl rfl (by kernel_rfl) ?_) <|
    allC_cons (way1 (dropS false true) (by simp [kinds]) (fun j => match j with  | j => .var (j + 10)) (fun j => match j with | 3 => 6 | 1 => 1 | _ => 0) (by kernel_rfl) rfl rfl rfl (by kernel_rfl) ?_) <|
    allC_cons (way1 (dropS false true) (by simp [kinds]) (fun j => match j with  | j => .var (j + 10)) (fun j => match j with | 3 => 6 | 1 => 1 | _ => 0) (by kernel_rfl) rfl rfl rfl (by kernel_rfl) ?_) <|
    allC_cons (way1 (dropS false true) (by simp [kinds]) (fun j => match j with | 4 => (.int 6) | 19 => z5Drop29 | j => .var (j + 10)) (fun j => match j with | 3 => 74 | 1 => 1 | _ => 0) (by kernel_rfl) rfl rfl rfl (by kernel_rfl) ?_) <|
    allC_cons (way1 (dropS false true) (by simp [kinds]) (fun j => match j with | 19 => z5Drop37 | j => .var (j + 10)) (fun j => match j with | 3 => 6 | 1 => 1 | _ => 0) (by kernel_rfl) rfl rfl rfl (by kernel_rfl) ?_) <|
    allC_nil _⟩ <|
  allS_cons ⟨[⟨true, .one (.c (.bool (.bool false))), [(6, .res 2 (.var 29)), (5, .res 3 (.var 28)), (2, .res 0 z5Drop2), (1, .cells (ch (cell1 (dropS true true) 10 3) [(2, .int .i64 z5Drop0), (3, .int .i64 z5Drop3), (4, .int .i64 (.int 1)), (5, .int .u64 z5Drop4)]))], 71, z5Dropp42⟩,
    ⟨true, .one (.c (.bool (.bool true))), [(6, .res 2 (.var 29)), (5, .res 3 (.var 28)), (2, .res 0 z5Drop2), (1, .cells (ch (cell1 (dropS true true) 10 3) [(2, .int .i64 z5Drop0), (3, .int .i64 z5Drop3), (5, .int .u64 z5Drop4), (9, .int .i64 (.int 3)), (10, .int .u64 (.int 0)), (11, .int .i64 (.int 0)), (12, .int .i64 z5Drop9)]))], 72, z5Dropp43⟩,
    ⟨true, .one (.c (.bool (.bool true))), [(6, .res 2 (.var 29)), (5, .res 3 (.var 28)), (2, .res 0 (.var 1)), (1, .cells (ch (cell1 (dropS true true) 10 3) [(2, .int .i64 z5Drop0), (3, .int .i64 z5Drop3), (9, .int .i64 (.int 3)), (10, .int .u64 (.int 0)), (11, .int .i64 (.int 0)), (12, .int .i64 z5Drop10)]))], 53, z5Dropp44⟩,
    ⟨true, .one (.c (.bool (.bool true))), [(6, .res 2 (.var 29)), (5, .res 3 (.var 28)), (2, .res 0 (.var 1)), (1, .cells (ch (cell1 (dropS true true) 10 3) [(2, .int .i64 z5Drop0), (3, .int .i64 z5Drop3), (9, .int .i64 (.int 3)), (10, .int .u64 (.int 0)), (11, .int .i64 (.int 0)), (12, .int .i64 z5Drop10)]))], 53, z5Dropp45⟩,
    ⟨true, .one (.c (.bool (.bool false))), [(90, .res 3 z5Drop14), (6, .res 2 (.var 29)), (5, .res 3 (.var 28)), (2, .res 0 z5Drop15), (1, .cells (ch (cell1 (dropS true true) 10 3) [(4, .int .i64 (.int 4)), (6, .int .i64 z5Drop13), (7, .ptr 90 (.int 0))]))], 91, z5Dropp49⟩,
    ⟨true, .one (.c (.bool (.bool false))), [(6, .res 2 (.var 29)), (5, .res 3 (.var 28)), (2, .res 0 z5Drop15), (1, .cells (ch (cell1 (dropS true true) 10 3) [(4, .int .i64 (.int 2)), (6, .int .i64 z5Drop13)]))], 68, z5Dropp50⟩,
    ⟨true, .one (.c (.bool (.bool true))), [(6, .res 2 (.var 29)), (5, .res 3 (.var 28)), (2, .res 0 z5Drop15), (1, .cells (ch (cell1 (dropS true true) 10 3) [(9, .int .i64 (.int 3)), (10, .int .u64 (.int 0)), (11, .int .i64 (.int 0)), (12, .int .i64 z5Drop19)]))], 69, z5Dropp51⟩,
    ⟨true, .one (.c (.bool (.bool false))), [(86, .res 3 z5Drop21), (6, .res 2 (.var 29)), (5, .res 3 (.var 28)), (2, .res 0 z5Drop23), (1, .cells (ch (cell1 (dropS true true) 10 3) [(4, .int .i64 (.int 3)), (7, .ptr 86 (.int 0))]))], 87, z5Dropp54⟩,
    ⟨true, .one (.c (.bool (.bool false))), [(6, .res 2 (.var 29)), (5, .res 3 (.var 28)), (2, .res 0 z5Drop23), (1, .cells (ch (cell1 (dropS true true) 10 3) [(4, .int .i64 (.int 0))]))], 67, z5Dropp55⟩,
    ⟨true, .one (.c (.bool (.bool false))), [(6, .res 2 (.var 29)), (5, .res 3 z5Drop32), (2, .res 0 z5Drop33), (1, .cells (ch (cell1 (dropS true true) 10 3) [(4, .int .i64 (.int 5)), (9, .int .i64 (.int 0)), (10, .int .u64 (.int 0)), (11, .int .i64 (.int 0)), (12, .int .i64 z5Drop34)]))], 56, z5Dropp63⟩,
    ⟨true, .one (.c (.bool (.bool false))), [(6, .res 2 (.var 29)), (5, .res 3 z5Drop32), (2, .res 0 z5Drop33), (1, .cells (ch (cell1 (dropS true true) 10 3) []))], 56, z5Dropp64⟩,
    ⟨true, .one (.c (.bool (.bool false))), [(6, .res 2 (.var 29)), (5, .res 3 z5Drop32), (2, .res 0 z5Drop33), (1, .cells (ch (cell1 (dropS true true) 10 3) [(4, .int .i64 (.int 0))]))], 56, z5Dropp65⟩,
    ⟨true, .one (.c (.bool (.bool false))), [(6, .res 2 (.var 29)), (5, .res 3 z5Drop32), (2, .res 0 z5Drop33), (1, .cells (ch (cell1 (dropS true true) 10 3) []))], 56, z5Dropp66⟩,
    ⟨true, .one (.c (.bool z5Drop28)), [(74, .res 2 z5Drop29), (6, .res 2 (.var 29)), (5, .res 3 (.var 28)), (2, .res 0 z5Drop30), (1, .cells (ch (cell1 (dropS true true) 10 3) [(4, .int .i64 (.int 6)), (8, .ptr 74 (.int 0))]))], 85, z5Dropp61⟩,
    ⟨true, .one (.c (.bool z5Drop36)), [(6, .res 2 z5Drop37), (5, .res 3 (.var 28)), (2, .res 0 z5Drop38), (1, .cells (ch (cell1 (dropS true true) 10 3) []))], 57, z5Dropp62⟩], by as_aux_lemma => kernel_rfl,
    allC_cons (way1 (dropS true true) (by simp [kinds]) (fun j => match j with | 2 => z5Drop0 | 3 => z5Drop3 | 4 => (.int 1) | 5 => z5Drop4 | j => .var (j + 10)) (fun j => match j with | 2 => 5 | 3 => 6 | 1 => 1 | _ => 0) (by kernel_rfl) rfl rfl rfl (by kernel_rfl) ?_) <|
    allC_cons (way1 (dropS true true) (by simp [kinds]) (fun j => match j with | 2 => z5Drop0 | 3 => z5Drop3 | 5 => z5Drop4 | 7 => (.int 3) | 8 => (.int 0) | 9 => (.int 0) | 10 => z5Drop9 | j => .var (j + 10)) (fun j => match j with | 2 => 5 | 3 => 6 | 1 => 1 | _ => 0) (by kernel_rfl) rfl rfl rfl (by kernel_rfl) ?_) <|
    allC_cons (way1 (dropS true true) (by simp [kinds]) (fun j => match j with | 2 => z5Drop0 | 3 => z5Drop3 | 7 => (.int 3) | 8 => (.int 0) | 9 => (.int 0) | 10 => z5Drop10 | j => .var (j + 10)) (fun j => match j with | 2 => 5 | 3 => 6 | 1 => 1 | _ => 0) (by kernel_rfl) rfl rfl rfl (by kernel_rfl) ?_) <|
    allC_cons (way1 (dropS true true) (by simp [kinds]) (fun j => match j with | 2 => z5Drop0 | 3 => z5Drop3 | 7 => (.int 3) | 8 => (.int 0) | 9 => (.int 0) | 10 => z5Drop10 | j => .var (j + 10)) (fun j => match j with | 2 => 5 | 3 => 6 | 1 => 1 | _ => 0) (by kernel_rfl) rfl rfl rfl (by kernel_rfl) ?_) <|
    allC_cons (way1 (dropS true true) (by simp [kinds]) (fun j => match j with | 4 => (.int 4) | 6 => z5Drop13 | 18 => z5Drop14 | j => .var (j + 10)) (fun j => match j with | 2 => 90 | 3 => 6 | 1 => 1 | _ => 0) (by kernel_rfl) rfl rfl rfl (by kernel_rfl) ?_) <|
    allC_cons (way1 (dropS true true) (by simp [kinds]) (fun j => match j with | 4 => (.int 2) | 6 => z5Drop13 | j => .var (j + 10)) (fun j => match j with | 2 => 5 | 3 => 6 | 1 => 1 | _ => 0) (by kernel_rfl) rfl rfl rfl (by kernel_rfl) ?_) <|
    allC_cons (way1 (dropS true true) (by simp [kinds]) (fun j => match j with | 7 => (.int 3) | 8 => (.int 0) | 9 => (.int 0) | 10 => z5Drop19 | j => .var (j + 10)) (fun j => match j with | 2 => 5 | 3 => 6 | 1 => 1 | _ => 0) (by kernel_rfl) rfl rfl rfl (by kernel_rfl) ?_) <|
    allC_cons (way1 (dropS true true) (by simp [kinds]) (fun j => match j with | 4 => (.int 3) | 18 => z5Drop21 | j => .var (j + 10)) (fun j => match j with | 2 => 86 | 3 => 6 | 1 => 1 | _ => 0) (by kernel_rfl) rfl rfl rfl (by kernel_rfl) ?_) <|
    allC_cons (way1 (dropS true true) (by simp [kinds]) (fun j => match j with | 4 => (.int 0) | j => .var (j + 10)) (fun j => match j with | 2 => 5 | 3 => 6 | 1 => 1 | _ => 0) (by kernel_rfl) rfl rfl rfl (by kernel_rfl) ?_) <|
    allC_cons (way1 (dropS true true) (by simp [kinds]) (fun j => match j with | 4 => (.int 5) | 7 => (.int 0) | 8 => (.int 0) | 9 => (.int 0) | 10 => z5Drop34 | 18 => z5Drop32 | j => .var (j + 10)) (fun j => match j with | 2 => 5 | 3 => 6 | 1 => 1 | _ => 0) (by kernel_rfl) rfl rfl rfl (by kernel_rfl) ?_) <|
    allC_cons (way1 (dropS true true) (by simp [kinds]) (fun j => match j with | 18 => z5Drop32 | j => .var (j + 10)) (fun j => match j with | 2 => 5 | 3 => 6 | 1 => 1 | _ => 0) (by kernel_rfl) rfl rfl rfl (by kernel_rfl) ?_) <|
    allC_cons (way1 (dropS true true) (by simp [kinds]) (fun j => match j with | 4 => (.int 0) | 18 => z5Drop32 | j => .var (j + 10)) (fun j => match j with | 2 => 5 | 3 => 6 | 1 => 1 | _ => 0) (by kernel_rfl) rfl rfl rfl (by kernel_rfl) ?_) <|
    allC_cons (way1 (dropS true true) (by simp [kinds]) (fun j => match j with | 18 => z5Drop32 | j => .var (j + 10)) (fun j => match j with | 2 => 5 | 3 => 6 | 1 => 1 | _ => 0) (by kernel_rfl) rfl rfl rfl (by kernel_rfl) ?_) <|
    allC_cons (way1 (dropS true true) (by simp [kinds]) (fun j => match j with | 4 => (.int 6) | 19 => z5Drop29 | j => .var (j + 10)) (fun j => match j with | 2 => 5 | 3 => 74 | 1 => 1 | _ => 0) (by kernel_rfl) rfl rfl rfl (by kernel_rfl) ?_) <|
    allC_cons (way1 (dropS true true) (by simp [kinds]) (fun j => match j with | 19 => z5Drop37 | j => .var (j + 10)) (fun j => match j with | 2 => 5 | 3 => 6 | 1 => 1 | _ => 0) (by kernel_rfl) rfl rfl rfl (by kernel_rfl) ?_) <|
    allC_nil _⟩ <|
  allS_nil _)
  all_goals as_aux_lemma =>
    intro n hp hg hi
    simp only [pt_nil, pt_cons, E.den, sg_f1, sg_f2, sg_f3, sg_f4, f1_0, f1_1, f1_2, f1_3, f1_4, f1_5, f1_6, f1_10, f1_11, f1_12, f1_20, f1_21, f1_22, f1_23, f1_29, f1_32, f1_38, f1_39, f1_41, f1_51, f2_0, f2_1, f2_3, f2_20, f2_21, f2_22, f3_1, f3_2, f3_3, f3_4, f4_0, f4_11, f4_12, f4_23, f4_24, f4_25, f4_26, f4_27, f4_28, f4_33, f4_34, f4_35, O1.ap, O3.ap, ap_arith, ap_bits, ap_div, ap_shift, ap_eql, ap_lss, ap_beq, ap_min, ap_max, ap_nthI, ap_nthB, ap_inI, ap_inB, G.toInt_int, G.toBool_bool, G.toInts_ints, ltI_t, ltI_f, inN_t, inN_f, and_true, Nat.zero_add, Nat.reduceAdd, arith_add, arith_sub, arith_mul, i64, u64, cas_by, openAt, pinAt, gplace_u, ggive_u, ghelp_u, galloc_u, gdrop_u, gaccess_u, gact_u, glst_u, gmem_u, gactx_u, gquad_u, Bool.not_eq_true', Bool.not_eq_false', beq_iff_eq, beq_eq_false_iff_ne, ne_eq] at hp
    simp only [mDrop, stepSp, e4, giveS, helpS, placeS, allocS, dropS, accessS, optG, optH, optP, sg_f1, sg_f2, sg_f3, sg_f4, f1_0, f1_1, f1_2, f1_3, f1_4, f1_5, f1_6, f1_10, f1_11, f1_12, f1_20, f1_21, f1_22, f1_23, f1_29, f1_32, f1_38, f1_39, f1_41, f1_51, f2_0, f2_1, f2_3, f2_20, f2_21, f2_22, f3_1, f3_2, f3_3, f3_4, f4_0, f4_11, f4_12, f4_23, f4_24, f4_25, f4_26, f4_27, f4_28, f4_33, f4_34, f4_35, O1.ap, O3.ap, ap_arith, ap_bits, ap_div, ap_shift, ap_eql, ap_lss, ap_beq, ap_min, ap_max, ap_nthI, ap_nthB, ap_inI, ap_inB, G.toInt_int, G.toBool_bool, G.toInts_ints, ltI_t, ltI_f, inN_t, inN_f, and_true, Nat.zero_add, Nat.reduceAdd, arith_add, arith_sub, arith_mul, i64, u64, cas_by, openAt, pinAt] at hg hi
    first
    | (simp only [mDrop, stepSp, e4, giveS, helpS, placeS, allocS, dropS, accessS, optG, optH, optP, xi, xu, xb, SV.den, S2.den, S1.den, cellsDen, List.map, iE, uE, bE, E.den, sg_f1, sg_f2, sg_f3, sg_f4, f1_0, f1_1, f1_2, f1_3, f1_4, f1_5, f1_6, f1_10, f1_11, f1_12, f1_20, f1_21, f1_22, f1_23, f1_29, f1_32, f1_38, f1_39, f1_41, f1_51, f2_0, f2_1, f2_3, f2_20, f2_21, f2_22, f3_1, f3_2, f3_3, f3_4, f4_0, f4_11, f4_12, f4_23, f4_24, f4_25, f4_26, f4_27, f4_28, f4_33, f4_34, f4_35, O1.ap, O3.ap, ap_arith, ap_bits, ap_div, ap_shift, ap_eql, ap_lss, ap_beq, ap_min, ap_max, ap_nthI, ap_nthB, ap_inI, ap_inB, G.toInt_int, G.toBool_bool, G.toInts_ints, ltI_t, ltI_f, inN_t, inN_f, and_true, Nat.zero_add, Nat.reduceAdd, arith_add, arith_sub, arith_mul, i64, u64, cas_by, openAt, pinAt, hg, gplace_u, ggive_u, ghelp_u, galloc_u, gdrop_u, gaccess_u, gact_u, glst_u, gmem_u, dropStep, dropInvalid, hp, reduceIte, if_true, if_false, not_true, not_false_iff, Classical.not_not, true_and, and_true, false_and, and_false, true_or, or_true, false_or, or_false, Bool.not_true, Bool.not_false, Bool.and_true, Bool.and_false, Bool.false_and, Bool.true_and, decide_true, decide_false, Int.reduceEq, Bool.false_eq_true, Bool.true_eq_false]; done)
    | (simp only [mDrop, stepSp, e4, giveS, helpS, placeS, allocS, dropS, accessS, optG, optH, optP, xi, xu, xb, SV.den, S2.den, S1.den, cellsDen, List.map, iE, uE, bE, E.den, sg_f1, sg_f2, sg_f3, sg_f4, f1_0, f1_1, f1_2, f1_3, f1_4, f1_5, f1_6, f1_10, f1_11, f1_12, f1_20, f1_21, f1_22, f1_23, f1_29, f1_32, f1_38, f1_39, f1_41, f1_51, f2_0, f2_1, f2_3, f2_20, f2_21, f2_22, f3_1, f3_2, f3_3, f3_4, f4_0, f4_11, f4_12, f4_23, f4_24, f4_25, f4_26, f4_27, f4_28, f4_33, f4_34, f4_35, O1.ap, O3.ap, ap_arith, ap_bits, ap_div, ap_shift, ap_eql, ap_lss, ap_beq, ap_min, ap_max, ap_nthI, ap_nthB, ap_inI, ap_inB, G.toInt_int, G.toBool_bool, G.toInts_ints, ltI_t, ltI_f, inN_t, inN_f, and_true, Nat.zero_add, Nat.reduceAdd, arith_add, arith_sub, arith_mul, i64, u64, cas_by, openAt, pinAt, hg, gplace_u, ggive_u, ghelp_u, galloc_u, gdrop_u, gaccess_u, gact_u, glst_u, gmem_u, dropStep, dropInvalid]; simp [hp]; done)
    | (simp only [mDrop, stepSp, e4, giveS, helpS, placeS, allocS, dropS, accessS, optG, optH, optP, xi, xu, xb, SV.den, S2.den, S1.den, cellsDen, List.map, iE, uE, bE, E.den, sg_f1, sg_f2, sg_f3, sg_f4, f1_0, f1_1, f1_2, f1_3, f1_4, f1_5, f1_6, f1_10, f1_11, f1_12, f1_20, f1_21, f1_22, f1_23, f1_29, f1_32, f1_38, f1_39, f1_41, f1_51, f2_0, f2_1, f2_3, f2_20, f2_21, f2_22, f3_1, f3_2, f3_3, f3_4, f4_0, f4_11, f4_12, f4_23, f4_24, f4_25, f4_26, f4_27, f4_28, f4_33, f4_34, f4_35, O1.ap, O3.ap, ap_arith, ap_bits, ap_div, ap_shift, ap_eql, ap_lss, ap_beq, ap_min, ap_max, ap_nthI, ap_nthB, ap_inI, ap_inB, G.toInt_int, G.toBool_bool, G.toInts_ints, ltI_t, ltI_f, inN_t, inN_f, and_true, Nat.zero_add, Nat.reduceAdd, arith_add, arith_sub, arith_mul, i64, u64, cas_by, openAt, pinAt, hg, gplace_u, ggive_u, ghelp_u, galloc_u, gdrop_u, gaccess_u, gact_u, glst_u, gmem_u, dropStep, dropInvalid]; simp_all; done)
    | (exfalso; omega)
    | skip

end Go.Fl
