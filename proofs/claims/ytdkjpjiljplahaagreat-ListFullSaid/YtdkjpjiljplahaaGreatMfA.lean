/- Templates, level 5, shown. -/
import Derived.Test.YtdkjpjiljplahaaGreatMe
namespace Go.Fl
open Go Go.Sx Go.Proofs
variable [ExtF]
set_option linter.unusedSimpArgs false
set_option maxRecDepth 100000
set_option maxHeartbeats 2000000

abbrev z5Alloc0 : E := .f1 41 (.var 1)
abbrev z5Alloc1 : E := .f1 38 (.var 10)
abbrev z5Alloc2 : E := .o2 .lss z5Alloc1 (.int 0)
abbrev z5Alloc3 : E := .o2 .eql (.var 12) (.int 0)
abbrev z5Alloc4 : E := .f3 3 (.var 1) (.var 3) (.int 1)
abbrev z5Alloc5 : E := .f2 20 (.var 1) (.int 1)
abbrev z5Alloc6 : E := .f1 36 z5Alloc5
abbrev z5Alloc7 : E := .o2 .lss z5Alloc6 (.int 0)
abbrev z5Alloc8 : E := .o2 .eql (.var 13) (.int 0)
abbrev z5Alloc9 : E := .f1 41 z5Alloc4
abbrev z5Alloc10 : E := .o2 (.arith .add .i64) (.f2 0 (.var 2) (.var 16)) (.int 1)
abbrev z5Alloc11 : E := .f3 3 (.var 1) (.var 3) z5Alloc10
abbrev z5Alloc12 : E := .f1 36 (.f2 20 (.var 1) z5Alloc10)
abbrev z5Alloc13 : E := .o2 .eql (.var 13) (.int 1)
abbrev z5Alloc14 : E := .f4 12 (.f2 22 (.var 1) (.var 3)) (.int 1) (.var 14) (.f2 11 (.var 15) (.o2 (.arith .add .i64) (.f1 37 (.var 14)) (.int 1)))
abbrev z5Alloc15 : E := .f3 2 (.var 1) (.int 1) (.var 14)
abbrev z5Alloc16 : E := .f1 50 z5Alloc1
abbrev z5Alloc17 : E := .f2 0 (.var 2) (.var 18)
abbrev z5Alloc18 : E := .f3 3 (.var 1) (.var 3) z5Alloc17
abbrev z5Alloc19 : E := .f1 22 (.f2 20 (.var 1) z5Alloc17)
abbrev z5Alloc20 : E := .o2 .eql (.var 12) (.int 1)
abbrev z5Alloc21 : E := .o2 .eql (.var 12) (.int 2)
abbrev z5Alloc22 : E := .f4 11 (.var 1) (.var 3) (.o2 (.arith .add .i64) (.f2 1 (.var 2) (.var 21)) (.int 1)) (.f1 39 z5Alloc1)
abbrev z5Alloc23 : E := .o2 .eql (.var 12) (.int 3)
abbrev z5Alloc24 : E := .f4 10 (.var 1) (.var 3) (.var 20) (.f2 12 (.f4 2 (.int 1) (.var 10) (.var 18) (.var 19)) (.var 11))
abbrev z5Alloc25 : E := .o2 .eql (.var 12) (.int 4)
abbrev z5Alloc26 : E := .f4 10 (.var 1) (.var 3) z5Alloc17 (.f4 0 (.int 1) (.var 20) (.var 19) (.int 0))
abbrev z5Alloc27 : E := .f2 10 (.var 18) (.var 19)
abbrev z5Alloc28 : E := .f1 41 z5Alloc26
abbrev z5Alloc29 : E := .o2 .eql (.var 12) (.int 5)
abbrev z5Alloc30 : E := .f4 10 (.var 1) (.var 3) (.var 20) (.f2 12 (.f4 2 (.int 2) (.var 10) (.var 18) (.var 19)) (.var 11))
abbrev z5Alloc31 : E := .o2 .eql (.var 12) (.int 6)
abbrev z5Alloc32 : E := .f4 20 (.var 28) (.var 1) (.var 2) (.var 3)
abbrev z5Alloc33 : E := .f4 21 (.var 28) (.var 1) (.var 2) (.var 3)
abbrev z5Alloc34 : E := .f1 52 z5Alloc32
abbrev z5Alloc35 : E := .f1 53 z5Alloc32
abbrev z5Alloc36 : E := .f1 54 z5Alloc32
abbrev z5Alloc37 : E := .f4 22 (.var 28) (.var 1) (.var 2) (.var 3)
abbrev z5Alloc38 : E := .f1 51 (.var 18)
abbrev z5Alloc39 : E := .f1 41 z5Alloc33
abbrev z5Alloc40 : E := .f4 23 (.var 29) (.var 1) (.var 2) (.var 3)
abbrev z5Allocp41 : Path := [(z5Alloc3, true)]
abbrev z5Allocp42 : Path := (z5Alloc2, true) :: z5Allocp41
abbrev z5Allocp43 : Path := (z5Alloc2, false) :: z5Allocp41
abbrev z5Allocp44 : Path := (z5Alloc8, true) :: z5Allocp43
abbrev z5Allocp45 : Path := (z5Alloc7, true) :: z5Allocp44
abbrev z5Allocp46 : Path := ((.var 17), true) :: z5Allocp45
abbrev z5Allocp47 : Path := ((.var 17), false) :: z5Allocp45
abbrev z5Allocp48 : Path := (z5Alloc7, false) :: z5Allocp44
abbrev z5Allocp49 : Path := (z5Alloc8, false) :: z5Allocp43
abbrev z5Allocp50 : Path := (z5Alloc13, true) :: z5Allocp49
abbrev z5Allocp51 : Path := ((.var 17), true) :: z5Allocp50
abbrev z5Allocp52 : Path := ((.var 17), false) :: z5Allocp50
abbrev z5Allocp53 : Path := (z5Alloc13, false) :: z5Allocp49
abbrev z5Allocp54 : Path := (z5Alloc15, true) :: z5Allocp53
abbrev z5Allocp55 : Path := (z5Alloc15, false) :: z5Allocp53
abbrev z5Allocp56 : Path := [(z5Alloc3, false)]
abbrev z5Allocp57 : Path := (z5Alloc20, true) :: z5Allocp56
abbrev z5Allocp58 : Path := (z5Alloc20, false) :: z5Allocp56
abbrev z5Allocp59 : Path := (z5Alloc21, true) :: z5Allocp58
abbrev z5Allocp60 : Path := (z5Alloc21, false) :: z5Allocp58
abbrev z5Allocp61 : Path := (z5Alloc23, true) :: z5Allocp60
abbrev z5Allocp62 : Path := (z5Alloc23, false) :: z5Allocp60
abbrev z5Allocp63 : Path := (z5Alloc25, true) :: z5Allocp62
abbrev z5Allocp64 : Path := (z5Alloc25, false) :: z5Allocp62
abbrev z5Allocp65 : Path := (z5Alloc29, true) :: z5Allocp64
abbrev z5Allocp66 : Path := (z5Alloc29, false) :: z5Allocp64
abbrev z5Allocp67 : Path := (z5Alloc31, true) :: z5Allocp66
abbrev z5Allocp68 : Path := (z5Alloc31, false) :: z5Allocp66
abbrev z5Allocp69 : Path := (z5Alloc37, true) :: z5Allocp59
abbrev z5Allocp70 : Path := (z5Alloc36, true) :: z5Allocp69
abbrev z5Allocp71 : Path := (z5Alloc36, false) :: z5Allocp69
abbrev z5Allocp72 : Path := (z5Alloc37, false) :: z5Allocp59
theorem mAlloc_ok : mAlloc.t.ok SG prog 341 := by
  refine MSpec.ok tm4_ok mAlloc rfl (by kernel_rfl) (
  allS_cons ⟨[⟨true, .one (.c (.bool (.bool true))), [(2, .res 0 (.var 1)), (1, .cells (ch (cell1 (allocS false false) 10 3) [(14, .int .i64 (.int 5)), (15, .int .u64 (.int 0)), (16, .int .i64 (.int 0)), (17, .int .i64 z5Alloc0)]))], 42, z5Allocp42⟩,
    ⟨true, .one (.c (.bool (.bool false))), [(2, .res 0 z5Alloc4), (1, .cells (ch (cell1 (allocS false false) 10 3) [(2, .int .i64 (.int 1)), (3, .int .i64 (.int 1)), (4, .int .u64 z5Alloc5), (6, .int .i64 z5Alloc6), (8, .int .i64 z5Alloc6)]))], 54, z5Allocp46⟩,
    ⟨true, .one (.c (.bool (.bool true))), [(2, .res 0 z5Alloc4), (1, .cells (ch (cell1 (allocS false false) 10 3) [(2, .int .i64 (.int 1)), (3, .int .i64 (.int 1)), (4, .int .u64 z5Alloc5), (6, .int .i64 z5Alloc6), (8, .int .i64 (.int 0)), (14, .int .i64 (.int 7)), (15, .int .u64 (.int 0)), (16, .int .i64 (.int 0)), (17, .int .i64 z5Alloc9)]))], 55, z5Allocp47⟩,
    ⟨true, .one (.c (.bool (.bool false))), [(2, .res 0 z5Alloc4), (1, .cells (ch (cell1 (allocS false false) 10 3) [(3, .int .i64 (.int 1)), (4, .int .u64 z5Alloc5), (6, .int .i64 z5Alloc6)]))], 54, z5Allocp48⟩,
    ⟨true, .one (.c (.bool (.bool false))), [(2, .res 0 z5Alloc11), (1, .cells (ch (cell1 (allocS false false) 10 3) [(2, .int .i64 (.int 1)), (3, .int .i64 (.int 2)), (5, .int .i64 z5Alloc12), (8, xi 16)]))], 65, z5Allocp51⟩,
    ⟨true, .one (.c (.bool (.bool false))), [(2, .res 0 z5Alloc11), (1, .cells (ch (cell1 (allocS false false) 10 3) [(3, .int .i64 (.int 2)), (5, .int .i64 z5Alloc12)]))], 65, z5Allocp52⟩,
    ⟨true, .one (.c (.bool (.bool false))), [(2, .res 0 z5Alloc14), (1, .cells (ch (cell1 (allocS false false) 10 3) [(2, .int .i64 (.int 1)), (3, .int .i64 (.int 0)), (7, .bool z5Alloc15), (8, xi 16)]))], 65, z5Allocp54⟩,
    ⟨true, .one (.c (.bool (.bool false))), [(2, .res 0 z5Alloc14), (1, .cells (ch (cell1 (allocS false false) 10 3) [(3, .int .i64 (.int 0)), (7, .bool z5Alloc15)]))], 65, z5Allocp55⟩,
    ⟨true, .one (.c (.bool (.bool false))), [(60, .res 1 z5Alloc16), (2, .res 0 z5Alloc18), (1, .cells (ch (cell1 (allocS false false) 10 3) [(2, .int .i64 (.int 2)), (9, .int .i64 z5Alloc19), (10, .ptr 60 (.int 0))]))], 61, z5Allocp57⟩,
    ⟨true, .one (.c (.bool (.bool false))), [(2, .res 0 (.var 1)), (1, .cells (ch (cell1 (allocS false false) 10 3) []))], 48, z5Allocp59⟩,
    ⟨true, .one (.c (.bool (.bool false))), [(2, .res 0 z5Alloc22), (1, .cells (ch (cell1 (allocS false false) 10 3) [(2, .int .i64 (.int 4))]))], 58, z5Allocp61⟩,
    ⟨true, .one (.c (.bool (.bool false))), [(2, .res 0 z5Alloc24), (1, .cells (ch (cell1 (allocS false false) 10 3) [(2, .int .i64 (.int 5))]))], 70, z5Allocp63⟩,
    ⟨true, .one (.c (.bool (.bool false))), [(2, .res 0 z5Alloc26), (1, .cells (ch (cell1 (allocS false false) 10 3) [(2, .int .i64 (.int 6)), (14, .int .i64 (.int 0)), (15, .int .u64 z5Alloc27), (16, .int .i64 (.int 0)), (17, .int .i64 z5Alloc28)]))], 78, z5Allocp65⟩,
    ⟨true, .one (.c (.bool (.bool true))), [(2, .res 0 z5Alloc30), (1, .cells (ch (cell1 (allocS false false) 10 3) []))], 70, z5Allocp67⟩,
    ⟨true, .one (.c (.bool (.bool false))), [(2, .res 0 (.var 1)), (1, .cells (ch (cell1 (allocS false false) 10 3) []))], 49, z5Allocp68⟩], by as_aux_lemma => kernel_rfl,
    allC_cons (way1 (allocS false false) (by simp [kinds]) (fun j => match j with | 12 => (.int 5) | 13 => (.int 0) | 14 => (.int 0) | 15 => z5Alloc0 | j => .var (j + 10)) (fun j => match j with | 1 => 1 | _ => 0) (by kernel_rfl) rfl rfl rfl (by kernel_rfl) ?_) <|
    allC_cons (way1 (allocS false false) (by simp [kinds]) (fun j => match j with | 2 => (.int 1) | 3 => (.int 1) | 4 => z5Alloc5 | 6 => z5Alloc6 | 8 => z5Alloc6 | j => .var (j + 10)) (fun j => match j with | 1 => 1 | _ => 0) (by kernel_rfl) rfl rfl rfl (by kernel_rfl) ?_) <|
    allC_cons (way1 (allocS false false) (by simp [kinds]) (fun j => match j with | 2 => (.int 1) | 3 => (.int 1) | 4 => z5Alloc5 | 6 => z5Alloc6 | 8 => (.int 0) | 12 => (.int 7) | 13 => (.int 0) | 14 => (.int 0) | 15 => z5Alloc9 | j => .var (j + 10)) (fun j => match j with | 1 => 1 | _ => 0) (by kernel_rfl) rfl rfl rfl (by kernel_rfl) ?_) <|
    allC_cons (way1 (allocS false false) (by simp [kinds]) (fun j => match j with | 3 => (.int 1) | 4 => z5Alloc5 | 6 => z5Alloc6 | j => .var (j + 10)) (fun j => match j with | 1 => 1 | _ => 0) (by kernel_rfl) rfl rfl rfl (by kernel_rfl) ?_) <|
    allC_cons (way1 (allocS false false) (by simp [kinds]) (fun j => match j with | 2 => (.int 1) | 3 => (.int 2) | 5 => z5Alloc12 | 8 => (.var 16) | j => .var (j + 10)) (fun j => match j with | 1 => 1 | _ => 0) (by kernel_rfl) rfl rfl rfl (by kernel_rfl) ?_) <|
    allC_cons (way1 (allocS false false) (by simp [kinds]) (fun j => match j with | 3 => (.int 2) | 5 => z5Alloc12 | j => .var (j + 10)) (fun j => match j with | 1 => 1 | _ => 0) (by kernel_rfl) rfl rfl rfl (by kernel_rfl) ?_) <|
    allC_cons (way1 (allocS false false) (by simp [kinds]) (fun j => match j with | 2 => (.int 1) | 3 => (.int 0) | 7 => z5Alloc15 | 8 => (.var 16) | j => .var (j + 10)) (fun j => match j with | 1 => 1 | _ => 0) (by kernel_rfl) rfl rfl rfl (by kernel_rfl) ?_) <|
    allC_cons (way1 (allocS false false) (by simp [kinds]) (fun j => match j with | 3 => (.int 0) | 7 => z5Alloc15 | j => .var (j + 10)) (fun j => match j with | 1 => 1 | _ => 0) (by kernel_rfl) rfl rfl rfl (by kernel_rfl) ?_) <|
    allC_cons (way1 (allocS true false) (by simp [kinds]) (fun j => match j with | 2 => (.int 2) | 9 => z5Alloc19 | 18 => z5Alloc16 | j => .var (j + 10)) (fun j => match j with | 2 => 60 | 1 => 1 | _ => 0) (by kernel_rfl) rfl rfl rfl (by kernel_rfl) ?_) <|
    allC_cons (way1 (allocS false false) (by simp [kinds]) (fun j => match j with  | j => .var (j + 10)) (fun j => match j with | 1 => 1 | _ => 0) (by kernel_rfl) rfl rfl rfl (by kernel_rfl) ?_) <|
    allC_cons (way1 (allocS false false) (by simp [kinds]) (fun j => match j with | 2 => (.int 4) | j => .var (j + 10)) (fun j => match j with | 1 => 1 | _ => 0) (by kernel_rfl) rfl rfl rfl (by kernel_rfl) ?_) <|
    allC_cons (way1 (allocS false false) (by simp [kinds]) (fun j => match j with | 2 => (.int 5) | j => .var (j + 10)) (fun j => match j with | 1 => 1 | _ => 0) (by kernel_rfl) rfl rfl rfl (by kernel_rfl) ?_) <|
    allC_cons (way1 (allocS false false) (by simp [kinds]) (fun j => match j with | 2 => (.int 6) | 12 => (.int 0) | 13 => z5Alloc27 | 14 => (.int 0) | 15 => z5Alloc28 | j => .var (j + 10)) (fun j => match j with | 1 => 1 | _ => 0) (by kernel_rfl) rfl rfl rfl (by kernel_rfl) ?_) <|
    allC_cons (way1 (allocS false false) (by simp [kinds]) (fun j => match j with  | j => .var (j + 10)) (fun j => match j with | 1 => 1 | _ => 0) (by kernel_rfl) rfl rfl rfl (by kernel_rfl) ?_) <|
    allC_cons (way1 (allocS false false) (by simp [kinds]) (fun j => match j with  | j => .var (j + 10)) (fun j => match j with | 1 => 1 | _ => 0) (by kernel_rfl) rfl rfl rfl (by kernel_rfl) ?_) <|
    allC_nil _⟩ <|
  allS_cons ⟨[⟨true, .one (.c (.bool (.bool true))), [(5, .res 1 (.var 28)), (2, .res 0 (.var 1)), (1, .cells (ch (cell1 (allocS true false) 10 3) [(14, .int .i64 (.int 5)), (15, .int .u64 (.int 0)), (16, .int .i64 (.int 0)), (17, .int .i64 z5Alloc0)]))], 42, z5Allocp42⟩,
    ⟨true, .one (.c (.bool (.bool false))), [(5, .res 1 (.var 28)), (2, .res 0 z5Alloc4), (1, .cells (ch (cell1 (allocS true false) 10 3) [(2, .int .i64 (.int 1)), (3, .int .i64 (.int 1)), (4, .int .u64 z5Alloc5), (6, .int .i64 z5Alloc6), (8, .int .i64 z5Alloc6)]))], 54, z5Allocp46⟩,
    ⟨true, .one (.c (.bool (.bool true))), [(5, .res 1 (.var 28)), (2, .res 0 z5Alloc4), (1, .cells (ch (cell1 (allocS true false) 10 3) [(2, .int .i64 (.int 1)), (3, .int .i64 (.int 1)), (4, .int .u64 z5Alloc5), (6, .int .i64 z5Alloc6), (8, .int .i64 (.int 0)), (14, .int .i64 (.int 7)), (15, .int .u64 (.int 0)), (16, .int .i64 (.int 0)), (17, .int .i64 z5Alloc9)]))], 55, z5Allocp47⟩,
    ⟨true, .one (.c (.bool (.bool false))), [(5, .res 1 (.var 28)), (2, .res 0 z5Alloc4), (1, .cells (ch (cell1 (allocS true false) 10 3) [(3, .int .i64 (.int 1)), (4, .int .u64 z5Alloc5), (6, .int .i64 z5Alloc6)]))], 54, z5Allocp48⟩,
    ⟨true, .one (.c (.bool (.bool false))), [(5, .res 1 (.var 28)), (2, .res 0 z5Alloc11), (1, .cells (ch (cell1 (allocS true false) 10 3) [(2, .int .i64 (.int 1)), (3, .int .i64 (.int 2)), (5, .int .i64 z5Alloc12), (8, xi 16)]))], 65, z5Allocp51⟩,
    ⟨true, .one (.c (.bool (.bool false))), [(5, .res 1 (.var 28)), (2, .res 0 z5Alloc11), (1, .cells (ch (cell1 (allocS true false) 10 3) [(3, .int .i64 (.int 2)), (5, .int .i64 z5Alloc12)]))], 65, z5Allocp52⟩,
    ⟨true, .one (.c (.bool (.bool false))), [(5, .res 1 (.var 28)), (2, .res 0 z5Alloc14), (1, .cells (ch (cell1 (allocS true false) 10 3) [(2, .int .i64 (.int 1)), (3, .int .i64 (.int 0)), (7, .bool z5Alloc15), (8, xi 16)]))], 65, z5Allocp54⟩,
    ⟨true, .one (.c (.bool (.bool false))), [(5, .res 1 (.var 28)), (2, .res 0 z5Alloc14), (1, .cells (ch (cell1 (allocS true false) 10 3) [(3, .int .i64 (.int 0)), (7, .bool z5Alloc15)]))], 65, z5Allocp55⟩,
    ⟨true, .one (.c (.bool (.bool false))), [(60, .res 1 z5Alloc16), (5, .res 1 (.var 28)), (2, .res 0 z5Alloc18), (1, .cells (ch (cell1 (allocS true false) 10 3) [(2, .int .i64 (.int 2)), (9, .int .i64 z5Alloc19), (10, .ptr 60 (.int 0))]))], 61, z5Allocp57⟩,
    ⟨true, .one (.c (.bool (.bool false))), [(5, .res 1 z5Alloc32), (2, .res 0 z5Alloc33), (1, .cells (ch (cell1 (allocS true false) 10 3) [(2, .int .i64 (.int 3)), (11, .int .i64 z5Alloc34), (12, .int .i64 z5Alloc35)]))], 48, z5Allocp70⟩,
    ⟨true, .one (.c (.bool (.bool false))), [(49, .res 2 z5Alloc38), (5, .res 1 z5Alloc32), (2, .res 0 z5Alloc33), (1, .cells (ch (cell1 (allocS true false) 10 3) [(2, .int .i64 (.int 7)), (11, .int .i64 z5Alloc34), (12, .int .i64 z5Alloc35), (13, .ptr 49 (.int 0)), (14, .int .i64 (.int 6)), (15, .int .u64 (.int 0)), (16, .int .i64 (.int 0)), (17, .int .i64 z5Alloc39)]))], 50, z5Allocp71⟩,
    ⟨true, .one (.c (.bool (.bool false))), [(5, .res 1 z5Alloc32), (2, .res 0 z5Alloc33), (1, .cells (ch (cell1 (allocS true false) 10 3) []))], 47, z5Allocp72⟩,
    ⟨true, .one (.c (.bool (.bool false))), [(5, .res 1 (.var 28)), (2, .res 0 z5Alloc22), (1, .cells (ch (cell1 (allocS true false) 10 3) [(2, .int .i64 (.int 4))]))], 58, z5Allocp61⟩,
    ⟨true, .one (.c (.bool (.bool false))), [(5, .res 1 (.var 28)), (2, .res 0 z5Alloc24), (1, .cells (ch (cell1 (allocS true false) 10 3) [(2, .int .i64 (.int 5))]))], 70, z5Allocp63⟩,
    ⟨true, .one (.c (.bool (.bool false))), [(5, .res 1 (.var 28)), (2, .res 0 z5Alloc26), (1, .cells (ch (cell1 (allocS true false) 10 3) [(2, .int .i64 (.int 6)), (14, .int .i64 (.int 0)), (15, .int .u64 z5Alloc27), (16, .int .i64 (.int 0)), (17, .int .i64 z5Alloc28)]))], 78, z5Allocp65⟩,
    ⟨true, .one (.c (.bool (.bool true))), [(5, .res 1 (.var 28)), (2, .res 0 z5Alloc30), (1, .cells (ch (cell1 (allocS true false) 10 3) []))], 70, z5Allocp67⟩,
    ⟨true, .one (.c (.bool (.bool false))), [(5, .res 1 (.var 28)), (2, .res 0 (.var 1)), (1, .cells (ch (cell1 (allocS true false) 10 3) []))], 49, z5Allocp68⟩], by as_aux_lemma => kernel_rfl,
    allC_cons (way1 (allocS true false) (by simp [kinds]) (fun j => match j with | 12 => (.int 5) | 13 => (.int 0) | 14 => (.int 0) | 15 => z5Alloc0 | j => .var (j + 10)) (fun j => match j with | 2 => 5 | 1 => 1 | _ => 0) (by kernel_rfl) rfl rfl rfl (by kernel_rfl) ?_) <|
    allC_cons (way1 (allocS true false) (by simp [kinds]) (fun j => match j with | 2 => (.int 1) | 3 => (.int 1) | 4 => z5Alloc5 | 6 => z5Alloc6 | 8 => z5Alloc6 | j => .var (j + 10)) (fun j => match j with | 2 => 5 | 1 => 1 | _ => 0) (by kernel_rfl) rfl rfl rfl (by kernel_rfl) ?_) <|
    allC_cons (way1 (allocS true false) (by simp [kinds]) (fun j => match j with | 2 => (.int 1) | 3 => (.int 1) | 4 => z5Alloc5 | 6 => z5Alloc6 | 8 => (.int 0) | 12 => (.int 7) | 13 => (.int 0) | 14 => (.int 0) | 15 => z5Alloc9 | j => .var (j + 10)) (fun j => match j with | 2 => 5 | 1 => 1 | _ => 0) (by kernel_rfl) rfl rfl rfl (by kernel_rfl) ?_) <|
    allC_cons (way1 (allocS true false) (by simp [kinds]) (fun j => match j with | 3 => (.int 1) | 4 => z5Alloc5 | 6 => z5Alloc6 | j => .var (j + 10)) (fun j => match j with | 2 => 5 | 1 => 1 | _ => 0) (by kernel_rfl) rfl rfl rfl (by kernel_rfl) ?_) <|
    allC_cons (way1 (allocS true false) (by simp [kinds]) (fun j => match j with | 2 => (.int 1) | 3 => (.int 2) | 5 => z5Alloc12 | 8 => (.var 16) | j => .var (j + 10)) (fun j => match j with | 2 => 5 | 1 => 1 | _ => 0) (by kernel_rfl) rfl rfl rfl (by kernel_rfl) ?_) <|
    allC_cons (way1 (allocS true false) (by simp [kinds]) (fun j => match j with | 3 => (.int 2) | 5 => z5Alloc12 | j => .var (j + 10)) (fun j => match j with | 2 => 5 | 1 => 1 | _ => 0) (by kernel_rfl) rfl rfl rfl (by kernel_rfl) ?_) <|
    allC_cons (way1 (allocS true false) (by simp [kinds]) (fun j => match j with | 2 => (.int 1) | 3 => (.int 0) | 7 => z5Alloc15 | 8 => (.var 16) | j => .var (j + 10)) (fun j => match j with | 2 => 5 | 1 => 1 | _ => 0) (by kernel_rfl) rfl rfl rfl (by kernel_rfl) ?_) <|
    allC_cons (way1 (allocS true false) (by simp [kinds]) (fun j => match j with | 3 => (.int 0) | 7 => z5Alloc15 | j => .var (j + 10)) (fun j => match j with | 2 => 5 | 1 => 1 | _ => 0) (by kernel_rfl) rfl rfl rfl (by kernel_rfl) ?_) <|
    allC_cons (way1 (allocS true false) (by simp [kinds]) (fun j => match j with | 2 => (.int 2) | 9 => z5Alloc19 | 18 => z5Alloc16 | j => .var (j + 10)) (fun j => match j with | 2 => 60 | 1 => 1 | _ => 0) (by kernel_rfl) rfl rfl rfl (by kernel_rfl) ?_) <|
    allC_cons (way1 (allocS true false) (by simp [kinds]) (fun j => match j with | 2 => (.int 3) | 10 => z5Alloc34 | 11 => z5Alloc35 | 18 => z5Alloc32 | j => .var (j + 10)) (fun j => match j with | 2 => 5 | 1 => 1 | _ => 0) (by kernel_rfl) rfl rfl rfl (by kernel_rfl) ?_) <|
    allC_cons (way1 (allocS true true) (by simp [kinds]) (fun j => match j with | 2 => (.int 7) | 10 => z5Alloc34 | 11 => z5Alloc35 | 12 => (.int 6) | 13 => (.int 0) | 14 => (.int 0) | 15 => z5Alloc39 | 18 => z5Alloc32 | 19 => z5Alloc38 | j => .var (j + 10)) (fun j => match j with | 2 => 5 | 3 => 49 | 1 => 1 | _ => 0) (by kernel_rfl) rfl rfl rfl (by kernel_rfl) ?_) <|
    allC_cons (way1 (allocS true false) (by simp [kinds]) (fun j => match j with | 18 => z5Alloc32 | j => .var (j + 10)) (fun j => match j with | 2 => 5 | 1 => 1 | _ => 0) (by kernel_rfl) rfl rfl rfl (by kernel_rfl) ?_) <|
    allC_cons (way1 (allocS true false) (by simp [kinds]) (fun j => match j with | 2 => (.int 4) | j => .var (j + 10)) (fun j => match j with | 2 => 5 | 1 => 1 | _ => 0) (by kernel_rfl) rfl rfl rfl (by kernel_rfl) ?_) <|
    allC_cons (way1 (allocS true false) (by simp [kinds]) (fun j => match j with | 2 => (.int 5) | j => .var (j + 10)) (fun j => match j with | 2 => 5 | 1 => 1 | _ => 0) (by kernel_rfl) rfl rfl rfl (by kernel_rfl) ?_) <|
    allC_cons (way1 (allocS true false) (by simp [kinds]) (fun j => match j with | 2 => (.int 6) | 12 => (.int 0) | 13 => z5Alloc27 | 14 => (.int 0) | 15 => z5Alloc28 | j => .var (j + 10)) (fun j => match j with | 2 => 5 | 1 => 1 | _ => 0) (by kernel_rfl) rfl rfl rfl (by kernel_rfl) ?_) <|
    allC_cons (way1 (allocS true false) (by simp [kinds]) (fun j => match j with  | j => .var (j + 10)) (fun j => match j with | 2 => 5 | 1 => 1 | _ => 0) (by kernel_rfl) rfl rfl rfl (by kernel_rfl) ?_) <|
    allC_cons (way1 (allocS true false) (by simp [kinds]) (fun j => match j with  | j => .var (j + 10)) (fun j => match j with | 2 => 5 | 1 => 1 | _ => 0) (by kernel_rfl) rfl rfl rfl (by kernel_rfl) ?_) <|
    allC_nil _⟩ <|
  allS_cons ⟨[⟨true, .one (.c (.bool (.bool true))), [(6, .res 2 (.var 29)), (5, .res 1 (.var 28)), (2, .res 0 (.var 1)), (1, .cells (ch (cell1 (allocS true true) 10 3) [(14, .int .i64 (.int 5)), (15, .int .u64 (.int 0)), (16, .int .i64 (.int 0)), (17, .int .i64 z5Alloc0)]))], 42, z5Allocp42⟩,
    ⟨true, .one (.c (.bool (.bool false))), [(6, .res 2 (.var 29)), (5, .res 1 (.var 28)), (2, .res 0 z5Alloc4), (1, .cells (ch (cell1 (allocS true true) 10 3) [(2, .int .i64 (.int 1)), (3, .int .i64 (.int 1)), (4, .int .u64 z5Alloc5), (6, .int .i64 z5Alloc6), (8, .int .i64 z5Alloc6)]))], 54, z5Allocp46⟩,
    ⟨true, .one (.c (.bool (.bool true))), [(6, .res 2 (.var 29)), (5, .res 1 (.var 28)), (2, .res 0 z5Alloc4), (1, .cells (ch (cell1 (allocS true true) 10 3) [(2, .int .i64 (.int 1)), (3, .int .i64 (.int 1)), (4, .int .u64 z5Alloc5), (6, .int .i64 z5Alloc6), (8, .int .i64 (.int 0)), (14, .int .i64 (.int 7)), (15, .int .u64 (.int 0)), (16, .int .i64 (.int 0)), (17, .int .i64 z5Alloc9)]))], 55, z5Allocp47⟩,
    ⟨true, .one (.c (.bool (.bool false))), [(6, .res 2 (.var 29)), (5, .res 1 (.var 28)), (2, .res 0 z5Alloc4), (1, .cells (ch (cell1 (allocS true true) 10 3) [(3, .int .i64 (.int 1)), (4, .int .u64 z5Alloc5), (6, .int .i64 z5Alloc6)]))], 54, z5Allocp48⟩,
    ⟨true, .one (.c (.bool (.bool false))), [(6, .res 2 (.var 29)), (5, .res 1 (.var 28)), (2, .res 0 z5Alloc11), (1, .cells (ch (cell1 (allocS true true) 10 3) [(2, .int .i64 (.int 1)), (3, .int .i64 (.int 2)), (5, .int .i64 z5Alloc12), (8, xi 16)]))], 65, z5Allocp51⟩,
    ⟨true, .one (.c (.bool (.bool false))), [(6, .res 2 (.var 29)), (5, .res 1 (.var 28)), (2, .res 0 z5Alloc11), (1, .cells (ch (cell1 (allocS true true) 10 3) [(3, .int .i64 (.int 2)), (5, .int .i64 z5Alloc12)]))], 65, z5Allocp52⟩,
    ⟨true, .one (.c (.bool (.bool false))), [(6, .res 2 (.var 29)), (5, .res 1 (.var 28)), (2, .res 0 z5Alloc14), (1, .cells (ch (cell1 (allocS true true) 10 3) [(2, .int .i64 (.int 1)), (3, .int .i64 (.int 0)), (7, .bool z5Alloc15), (8, xi 16)]))], 65, z5Allocp54⟩,
    ⟨true, .one (.c (.bool (.bool false))), [(6, .res 2 (.var 29)), (5, .res 1 (.var 28)), (2, .res 0 z5Alloc14), (1, .cells (ch (cell1 (allocS true true) 10 3) [(3, .int .i64 (.int 0)), (7, .bool z5Alloc15)]))], 65, z5Allocp55⟩,
    ⟨true, .one (.c (.bool (.bool false))), [(60, .res 1 z5Alloc16), (6, .res 2 (.var 29)), (5, .res 1 (.var 28)), (2, .res 0 z5Alloc18), (1, .cells (ch (cell1 (allocS true true) 10 3) [(2, .int .i64 (.int 2)), (9, .int .i64 z5Alloc19), (10, .ptr 60 (.int 0))]))], 61, z5Allocp57⟩,
    ⟨true, .one (.c (.bool (.bool false))), [(6, .res 2 (.var 29)), (5, .res 1 z5Alloc32), (2, .res 0 z5Alloc33), (1, .cells (ch (cell1 (allocS true true) 10 3) [(2, .int .i64 (.int 3)), (11, .int .i64 z5Alloc34), (12, .int .i64 z5Alloc35)]))], 48, z5Allocp70⟩,
    ⟨true, .one (.c (.bool (.bool false))), [(49, .res 2 z5Alloc38), (6, .res 2 (.var 29)), (5, .res 1 z5Alloc32), (2, .res 0 z5Alloc33), (1, .cells (ch (cell1 (allocS true true) 10 3) [(2, .int .i64 (.int 7)), (11, .int .i64 z5Alloc34), (12, .int .i64 z5Alloc35), (13, .ptr 49 (.int 0)), (14, .int .i64 (.int 6)), (15, .int .u64 (.int 0)), (16, .int .i64 (.int 0)), (17, .int .i64 z5Alloc39)]))], 50, z5Allocp71⟩,
    ⟨true, .one (.c (.bool (.bool false))), [(6, .res 2 (.var 29)), (5, .res 1 z5Alloc32), (2, .res 0 z5Alloc33), (1, .cells (ch (cell1 (allocS true true) 10 3) []))], 47, z5Allocp72⟩,
    ⟨true, .one (.c (.bool (.bool false))), [(6, .res 2 (.var 29)), (5, .res 1 (.var 28)), (2, .res 0 z5Alloc22), (1, .cells (ch (cell1 (allocS true true) 10 3) [(2, .int .i64 (.int 4))]))], 58, z5Allocp61⟩,
    ⟨true, .one (.c (.bool (.bool false))), [(6, .res 2 (.var 29)), (5, .res 1 (.var 28)), (2, .res 0 z5Alloc24), (1, .cells (ch (cell1 (allocS true true) 10 3) [(2, .int .i64 (.int 5))]))], 70, z5Allocp63⟩,
    ⟨true, .one (.c (.bool (.bool false))), [(6, .res 2 (.var 29)), (5, .res 1 (.var 28)), (2, .res 0 z5Alloc26), (1, .cells (ch (cell1 (allocS true true) 10 3) [(2, .int .i64 (.int 6)), (14, .int .i64 (.int 0)), (15, .int .u64 z5Alloc27), (16, .int .i64 (.int 0)), (17, .int .i64 z5Alloc28)]))], 78, z5Allocp65⟩,
    ⟨true, .one (.c (.bool (.bool true))), [(6, .res 2 (.var 29)), (5, .res 1 (.var 28)), (2, .res 0 z5Alloc30), (1, .cells (ch (cell1 (allocS true true) 10 3) []))], 70, z5Allocp67⟩,
    ⟨true, .one (.c (.bool (.f4 25 (.var 29) (.var 1) (.var 2) (.var 3)))), [(6, .res 2 z5Alloc40), (5, .res 1 (.var 28)), (2, .res 0 (.f4 24 (.var 29) (.var 1) (.var 2) (.var 3))), (1, .cells (ch (cell1 (allocS true true) 10 3) []))], 48, z5Allocp68⟩], by as_aux_lemma => kernel_rfl,
    allC_cons (way1 (allocS true true) (by simp [kinds]) (fun j => match j with | 12 => (.int 5) | 13 => (.int 0) | 14 => (.int 0) | 15 => z5Alloc0 | j => .var (j + 10)) (fun j => match j with | 2 => 5 | 3 => 6 | 1 => 1 | _ => 0) (by kernel_rfl) rfl rfl rfl (by kernel_rfl) ?_) <|
    allC_cons (way1 (allocS true true) (by simp [kinds]) (fun j => match j with | 2 => (.int 1) | 3 => (.int 1) | 4 => z5Alloc5 | 6 => z5Alloc6 | 8 => z5Alloc6 | j => .var (j + 10)) (fun j => match j with | 2 => 5 | 3 => 6 | 1 => 1 | _ => 0) (by kernel_rfl) rfl rfl rfl (by kernel_rfl) ?_) <|
    allC_cons (way1 (allocS true true) (by simp [kinds]) (fun j => match j with | 2 => (.int 1) | 3 => (.int 1) | 4 => z5Alloc5 | 6 => z5Alloc6 | 8 => (.int 0) | 12 => (.int 7) | 13 => (.int 0) | 14 => (.int 0) | 15 => z5Alloc9 | j => .var (j + 10)) (fun j => match j with | 2 => 5 | 3 => 6 | 1 => 1 | _ => 0) (by kernel_rfl) rfl rfl rfl (by kernel_rfl) ?_) <|
    allC_cons (way1 (allocS true true) (by simp [kinds]) (fun j => match j with | 3 => (.int 1) | 4 => z5Alloc5 | 6 => z5Alloc6 | j => .var (j + 10)) (fun j => match j with | 2 => 5 | 3 => 6 | 1 => 1 | _ => 0) (by kernel_rfl) rfl rfl rfl (by kernel_rfl) ?_) <|
    allC_cons (way1 (allocS true true) (by simp [kinds]) (fun j => match j with | 2 => (.int 1) | 3 => (.int 2) | 5 => z5Alloc12 | 8 => (.var 16) | j => .var (j + 10)) (fun j => match j with | 2 => 5 | 3 => 6 | 1 => 1 | _ => 0) (by kernel_rfl) rfl rfl rfl (by kernel_rfl) ?_) <|
    allC_cons (way1 (allocS true true) (by simp [kinds]) (fun j => match j with | 3 => (.int 2) | 5 => z5Alloc12 | j => .var (j + 10)) (fun j => match j with | 2 => 5 | 3 => 6 | 1 => 1 | _ => 0) (by kernel_rfl) rfl rfl rfl (by kernel_rfl) ?_) <|
    allC_cons (way1 (allocS true true) (by simp [kinds]) (fun j => match j with | 2 => (.int 1) | 3 => (.int 0) | 7 => z5Alloc15 | 8 => (.var 16) | j => .var (j + 10)) (fun j => match j with | 2 => 5 | 3 => 6 | 1 => 1 | _ => 0) (by kernel_rfl) rfl rfl rfl (by kernel_rfl) ?_) <|
    allC_cons (way1 (allocS true true) (by simp [kinds]) (fun j => match j with | 3 => (.int 0) | 7 => z5Alloc15 | j => .var (j + 10)) (fun j => match j with | 2 => 5 | 3 => 6 | 1 => 1 | _ => 0) (by kernel_rfl) rfl rfl rfl (by kernel_rfl) ?_) <|
    allC_cons (way1 (allocS true true) (by simp [kinds]) (fun j => match j with | 2 => (.int 2) | 9 => z5Alloc19 | 18 => z5Alloc16 | j => .var (j + 10)) (fun j => match j with | 2 => 60 | 3 => 6 | 1 => 1 | _ => 0) (by kernel_rfl) rfl rfl rfl (by kernel_rfl) ?_) <|
    allC_cons (way1 (allocS true true) (by simp [kinds]) (fun j => match j with | 2 => (.int 3) | 10 => z5Alloc34 | 11 => z5Alloc35 | 18 => z5Alloc32 | j => .var (j + 10)) (fun j => match j with | 2 => 5 | 3 => 6 | 1 => 1 | _ => 0) (by kernel_rfl) rfl rfl rfl (by kernel_rfl) ?_) <|
    allC_cons (way1 (allocS true true) (by simp [kinds]) (fun j => match j with | 2 => (.int 7) | 10 => z5Alloc34 | 11 => z5Alloc35 | 12 => (.int 6) | 13 => (.int 0) | 14 => (.int 0) | 15 => z5Alloc39 | 18 => z5Alloc32 | 19 => z5Alloc38 | j => .var (j + 10)) (fun j => match j with | 2 => 5 | 3 => 49 | 1 => 1 | _ => 0) (by kernel_rfl) rfl rfl rfl (by kernel_rfl) ?_) <|
    allC_cons (way1 (allocS true true) (by simp [kinds]) (fun j => match j with | 18 => z5Alloc32 | j => .var (j + 10)) (fun j => match j with | 2 => 5 | 3 => 6 | 1 => 1 | _ => 0) (by kernel_rfl) rfl rfl rfl (by kernel_rfl) ?_) <|
    allC_cons (way1 (allocS true true) (by simp [kinds]) (fun j => match j with | 2 => (.int 4) | j => .var (j + 10)) (fun j => match j with | 2 => 5 | 3 => 6 | 1 => 1 | _ => 0) (by kernel_rfl) rfl rfl rfl (by kernel_rfl) ?_) <|
    allC_cons (way1 (allocS true true) (by simp [kinds]) (fun j => match j with | 2 => (.int 5) | j => .var (j + 10)) (fun j => match j with | 2 => 5 | 3 => 6 | 1 => 1 | _ => 0) (by kernel_rfl) rfl rfl rfl (by kernel_rfl) ?_) <|
    allC_cons (way1 (allocS true true) (by simp [kinds]) (fun j => match j with | 2 => (.int 6) | 12 => (.int 0) | 13 => z5Alloc27 | 14 => (.int 0) | 15 => z5Alloc28 | j => .var (j + 10)) (fun j => match j with | 2 => 5 | 3 => 6 | 1 => 1 | _ => 0) (by kernel_rfl) rfl rfl rfl (by kernel_rfl) ?_) <|
    allC_cons (way1 (allocS true true) (by simp [kinds]) (fun j => match j with  | j => .var (j + 10)) (fun j => match j with | 2 => 5 | 3 => 6 | 1 => 1 | _ => 0) (by kernel_rfl) rfl rfl rfl (by kernel_rfl) ?_) <|
    allC_cons (way1 (allocS true true) (by simp [kinds]) (fun j => match j with | 19 => z5Alloc40 | j => .var (j + 10)) (fun j => match j with | 2 => 5 | 3 => 6 | 1 => 1 | _ => 0) (by kernel_rfl) rfl rfl rfl (by kernel_rfl) ?_) <|
    allC_nil _⟩ <|
  allS_nil _)
  all_goals as_aux_lemma =>
    intro n hp hg hi
    simp only [pt_nil, pt_cons, E.den, sg_f1, sg_f2, sg_f3, sg_f4, f1_0, f1_1, f1_2, f1_3, f1_4, f1_5, f1_6, f1_22, f1_36, f1_37, f1_38, f1_39, f1_41, f1_50, f1_51, f1_52, f1_53, f1_54, f2_0, f2_1, f2_10, f2_11, f2_12, f2_20, f2_22, f3_2, f3_3, f4_0, f4_2, f4_10, f4_11, f4_12, f4_20, f4_21, f4_22, f4_23, f4_24, f4_25, f4_30, f4_31, f4_32, O1.ap, O3.ap, ap_arith, ap_bits, ap_div, ap_shift, ap_eql, ap_lss, ap_beq, ap_min, ap_max, ap_nthI, ap_nthB, ap_inI, ap_inB, G.toInt_int, G.toBool_bool, G.toInts_ints, ltI_t, ltI_f, inN_t, inN_f, and_true, Nat.zero_add, Nat.reduceAdd, arith_add, arith_sub, arith_mul, i64, u64, cas_by, openAt, pinAt, gplace_u, ggive_u, ghelp_u, galloc_u, gdrop_u, gaccess_u, gact_u, glst_u, gmem_u, gactx_u, gquad_u, Bool.not_eq_true', Bool.not_eq_false', beq_iff_eq, beq_eq_false_iff_ne, ne_eq] at hp
    simp only [mAlloc, stepSp, e4, giveS, helpS, placeS, allocS, dropS, accessS, optG, optH, optP, sg_f1, sg_f2, sg_f3, sg_f4, f1_0, f1_1, f1_2, f1_3, f1_4, f1_5, f1_6, f1_22, f1_36, f1_37, f1_38, f1_39, f1_41, f1_50, f1_51, f1_52, f1_53, f1_54, f2_0, f2_1, f2_10, f2_11, f2_12, f2_20, f2_22, f3_2, f3_3, f4_0, f4_2, f4_10, f4_11, f4_12, f4_20, f4_21, f4_22, f4_23, f4_24, f4_25, f4_30, f4_31, f4_32, O1.ap, O3.ap, ap_arith, ap_bits, ap_div, ap_shift, ap_eql, ap_lss, ap_beq, ap_min, ap_max, ap_nthI, ap_nthB, ap_inI, ap_inB, G.toInt_int, G.toBool_bool, G.toInts_ints, ltI_t, ltI_f, inN_t, inN_f, and_true, Nat.zero_add, Nat.reduceAdd, arith_add, arith_sub, arith_mul, i64, u64, cas_by, openAt, pinAt] at hg hi
    first
    | (simp only [mAlloc, stepSp, e4, giveS, helpS, placeS, allocS, dropS, accessS, optG, optH, optP, xi, xu, xb, SV.den, S2.den, S1.den, cellsDen, List.map, iE, uE, bE, E.den, sg_f1, sg_f2, sg_f3, sg_f4, f1_0, f1_1, f1_2, f1_3, f1_4, f1_5, f1_6, f1_22, f1_36, f1_37, f1_38, f1_39, f1_41, f1_50, f1_51, f1_52, f1_53, f1_54, f2_0, f2_1, f2_10, f2_11, f2_12, f2_20, f2_22, f3_2, f3_3, f4_0, f4_2, f4_10, f4_11, f4_12, f4_20, f4_21, f4_22, f4_23, f4_24, f4_25, f4_30, f4_31, f4_32, O1.ap, O3.ap, ap_arith, ap_bits, ap_div, ap_shift, ap_eql, ap_lss, ap_beq, ap_min, ap_max, ap_nthI, ap_nthB, ap_inI, ap_inB, G.toInt_int, G.toBool_bool, G.toInts_ints, ltI_t, ltI_f, inN_t, inN_f, and_true, Nat.zero_add, Nat.reduceAdd, arith_add, arith_sub, arith_mul, i64, u64, cas_by, openAt, pinAt, hg, gplace_u, ggive_u, ghelp_u, galloc_u, gdrop_u, gaccess_u, gact_u, glst_u, gmem_u, allocStep, takeStep, takeSlot, allocHead, putHead, hp, reduceIte, if_true, if_false, not_true, not_false_iff, Classical.not_not, true_and, and_true, false_and, and_false, true_or, or_true, false_or, or_false, Bool.not_true, Bool.not_false, Bool.and_true, Bool.and_false, Bool.false_and, Bool.true_and, decide_true, decide_false, Int.reduceEq, Bool.false_eq_true, Bool.true_eq_false]; done)
    | (simp only [mAlloc, stepSp, e4, giveS, helpS, placeS, allocS, dropS, accessS, optG, optH, optP, xi, xu, xb, SV.den, S2.den, S1.den, cellsDen, List.map, iE, uE, bE, E.den, sg_f1, sg_f2, sg_f3, sg_f4, f1_0, f1_1, f1_2, f1_3, f1_4, f1_5, f1_6, f1_22, f1_36, f1_37, f1_38, f1_39, f1_41, f1_50, f1_51, f1_52, f1_53, f1_54, f2_0, f2_1, f2_10, f2_11, f2_12, f2_20, f2_22, f3_2, f3_3, f4_0, f4_2, f4_10, f4_11, f4_12, f4_20, f4_21, f4_22, f4_23, f4_24, f4_25, f4_30, f4_31, f4_32, O1.ap, O3.ap, ap_arith, ap_bits, ap_div, ap_shift, ap_eql, ap_lss, ap_beq, ap_min, ap_max, ap_nthI, ap_nthB, ap_inI, ap_inB, G.toInt_int, G.toBool_bool, G.toInts_ints, ltI_t, ltI_f, inN_t, inN_f, and_true, Nat.zero_add, Nat.reduceAdd, arith_add, arith_sub, arith_mul, i64, u64, cas_by, openAt, pinAt, hg, gplace_u, ggive_u, ghelp_u, galloc_u, gdrop_u, gaccess_u, gact_u, glst_u, gmem_u, allocStep, takeStep, takeSlot, allocHead, putHead]; simp [hp]; done)
    | (simp only [mAlloc, stepSp, e4, giveS, helpS, placeS, allocS, dropS, accessS, optG, optH, optP, xi, xu, xb, SV.den, S2.den, S1.den, cellsDen, List.map, iE, uE, bE, E.den, sg_f1, sg_f2, sg_f3, sg_f4, f1_0, f1_1, f1_2, f1_3, f1_4, f1_5, f1_6, f1_22, f1_36, f1_37, f1_38, f1_39, f1_41, f1_50, f1_51, f1_52, f1_53, f1_54, f2_0, f2_1, f2_10, f2_11, f2_12, f2_20, f2_22, f3_2, f3_3, f4_0, f4_2, f4_10, f4_11, f4_12, f4_20, f4_21, f4_22, f4_23, f4_24, f4_25, f4_30, f4_31, f4_32, O1.ap, O3.ap, ap_arith, ap_bits, ap_div, ap_shift, ap_eql, ap_lss, ap_beq, ap_min, ap_max, ap_nthI, ap_nthB, ap_inI, ap_inB, G.toInt_int, G.toBool_bool, G.toInts_ints, ltI_t, ltI_f, inN_t, inN_f, and_true, Nat.zero_add, Nat.reduceAdd, arith_add, arith_sub, arith_mul, i64, u64, cas_by, openAt, pinAt, hg, gplace_u, ggive_u, ghelp_u, galloc_u, gdrop_u, gaccess_u, gact_u, glst_u, gmem_u, allocStep, takeStep, takeSlot, allocHead, putHead]; simp_all; done)
    | (exfalso; omega)
    | skip

end Go.Fl
