/- Templates, level 5, shown. -/
import Derived.Test.YtdkjpjiljplahaaGreatMe
namespace Go.Fl
open Go Go.Sx Go.Proofs
variable [ExtF]
set_option linter.unusedSimpArgs false
set_option maxRecDepth 100000
set_option maxHeartbeats 2000000

abbrev z5Access0 : E := .f1 10 (.var 11)
abbrev z5Access1 : E := .f2 0 (.var 2) z5Access0
abbrev z5Access2 : E := .f3 3 (.var 1) (.var 3) z5Access1
abbrev z5Access3 : E := .f1 11 (.var 11)
abbrev z5Access4 : E := .f2 20 (.var 1) z5Access1
abbrev z5Access5 : E := .f1 41 z5Access2
abbrev z5Access6 : E := .f3 1 (.f1 20 z5Access4) (.f1 22 z5Access4) z5Access3
abbrev z5Access7 : E := .o2 .lss z5Access0 (.f1 1 (.var 2))
abbrev z5Access8 : E := .f1 12 (.var 11)
abbrev z5Access9 : E := .o2 .eql (.var 18) (.int 0)
abbrev z5Access10 : E := .f1 41 (.var 1)
abbrev z5Access11 : E := .f1 21 (.var 19)
abbrev z5Access12 : E := .f3 3 (.var 1) (.var 3) z5Access11
abbrev z5Access13 : E := .f2 20 (.var 1) z5Access11
abbrev z5Access14 : E := .f1 29 z5Access13
abbrev z5Access15 : E := .o2 .lss (.var 12) (.int 0)
abbrev z5Access16 : E := .o2 .beq (.f1 32 z5Access13) (.var 15)
abbrev z5Access17 : E := .o2 .eql (.var 18) (.int 1)
abbrev z5Access18 : E := .o2 .lss (.var 12) z5Access14
abbrev z5Access19 : E := .f1 41 z5Access12
abbrev z5Access20 : E := .o2 (.arith .add .i64) (.o2 (.arith .add .i64) z5Access11 (.int 1)) (.var 12)
abbrev z5Access21 : E := .f3 3 (.var 1) (.var 3) z5Access20
abbrev z5Access22 : E := .f2 20 (.var 1) z5Access20
abbrev z5Access23 : E := .f1 41 z5Access21
abbrev z5Access24 : E := .o2 .eql (.var 10) (.int 1)
abbrev z5Access25 : E := .o2 .eql (.var 18) (.int 2)
abbrev z5Access26 : E := .f3 4 (.var 16) (.var 19) (.var 23)
abbrev z5Access27 : E := .f1 20 (.var 19)
abbrev z5Access28 : E := .o2 .eql z5Access27 (.int 4)
abbrev z5Access29 : E := .o2 .eql (.f1 33 z5Access22) (.var 14)
abbrev z5Access30 : E := .o2 .eql (.var 10) (.int 3)
abbrev z5Access31 : E := .f1 35 z5Access22
abbrev z5Access32 : E := .f1 23 (.var 19)
abbrev z5Access33 : E := .o2 .lss z5Access31 z5Access32
abbrev z5Access34 : E := .f1 34 z5Access22
abbrev z5Access35 : E := .o2 .eql z5Access27 (.int 2)
abbrev z5Access36 : E := .o2 .eql z5Access31 z5Access32
abbrev z5Access37 : E := .f2 22 (.var 1) (.var 3)
abbrev z5Access38 : E := .f2 0 (.var 2) (.var 16)
abbrev z5Access39 : E := .f4 12 z5Access37 z5Access38 (.var 19) (.f4 0 (.int 1) z5Access11 (.f1 22 (.var 19)) (.o2 (.arith .add .i64) z5Access32 (.int 1)))
abbrev z5Access40 : E := .o2 .eql (.var 18) (.int 3)
abbrev z5Access41 : E := .o2 .eql (.var 18) (.int 4)
abbrev z5Access42 : E := .f4 12 z5Access37 z5Access20 (.var 20) (.f3 0 (.var 13) (.bool false) (.int 0))
abbrev z5Access43 : E := .f1 33 (.var 20)
abbrev z5Access44 : E := .f1 41 z5Access42
abbrev z5Access45 : E := .f3 2 (.var 1) z5Access20 (.var 20)
abbrev z5Access46 : E := .o2 .eql (.var 18) (.int 5)
abbrev z5Access47 : E := .f3 3 (.var 1) (.var 3) z5Access38
abbrev z5Access48 : E := .f2 20 (.var 1) z5Access38
abbrev z5Access49 : E := .o2 .eql (.f1 21 z5Access48) z5Access11
abbrev z5Access50 : E := .f3 1 (.f1 20 z5Access48) (.f1 22 z5Access48) (.var 17)
abbrev z5Access51 : E := .f1 41 z5Access47
abbrev z5Access52 : E := .f4 26 (.var 28) (.var 1) (.var 2) (.var 3)
abbrev z5Access53 : E := .f4 27 (.var 28) (.var 1) (.var 2) (.var 3)
abbrev z5Access54 : E := .f4 28 (.var 28) (.var 1) (.var 2) (.var 3)
abbrev z5Accessp55 : Path := [(z5Access9, true)]
abbrev z5Accessp56 : Path := (z5Access8, true) :: z5Accessp55
abbrev z5Accessp57 : Path := (z5Access7, true) :: z5Accessp56
abbrev z5Accessp58 : Path := (z5Access6, true) :: z5Accessp57
abbrev z5Accessp59 : Path := (z5Access6, false) :: z5Accessp57
abbrev z5Accessp60 : Path := (z5Access7, false) :: z5Accessp56
abbrev z5Accessp61 : Path := (z5Access8, false) :: z5Accessp55
abbrev z5Accessp62 : Path := [(z5Access9, false)]
abbrev z5Accessp63 : Path := (z5Access17, true) :: z5Accessp62
abbrev z5Accessp64 : Path := (z5Access16, true) :: z5Accessp63
abbrev z5Accessp65 : Path := (z5Access15, true) :: z5Accessp64
abbrev z5Accessp66 : Path := (z5Access15, false) :: z5Accessp64
abbrev z5Accessp67 : Path := (z5Access18, true) :: z5Accessp66
abbrev z5Accessp68 : Path := (z5Access18, false) :: z5Accessp66
abbrev z5Accessp69 : Path := (z5Access16, false) :: z5Accessp63
abbrev z5Accessp70 : Path := (z5Access17, false) :: z5Accessp62
abbrev z5Accessp71 : Path := (z5Access25, true) :: z5Accessp70
abbrev z5Accessp72 : Path := (z5Access24, true) :: z5Accessp71
abbrev z5Accessp73 : Path := (z5Access24, false) :: z5Accessp71
abbrev z5Accessp74 : Path := (z5Access30, true) :: z5Accessp73
abbrev z5Accessp75 : Path := (z5Access29, true) :: z5Accessp74
abbrev z5Accessp76 : Path := (z5Access28, true) :: z5Accessp75
abbrev z5Accessp77 : Path := (z5Access28, false) :: z5Accessp75
abbrev z5Accessp78 : Path := (z5Access34, true) :: z5Accessp77
abbrev z5Accessp79 : Path := (z5Access33, true) :: z5Accessp78
abbrev z5Accessp80 : Path := (z5Access33, false) :: z5Accessp78
abbrev z5Accessp81 : Path := (z5Access36, true) :: z5Accessp80
abbrev z5Accessp82 : Path := (z5Access35, true) :: z5Accessp81
abbrev z5Accessp83 : Path := (z5Access35, false) :: z5Accessp81
abbrev z5Accessp84 : Path := (z5Access36, false) :: z5Accessp80
abbrev z5Accessp85 : Path := (z5Access34, false) :: z5Accessp77
abbrev z5Accessp86 : Path := (z5Access29, false) :: z5Accessp74
abbrev z5Accessp87 : Path := (z5Access30, false) :: z5Accessp73
abbrev z5Accessp88 : Path := (z5Access28, true) :: z5Accessp87
abbrev z5Accessp89 : Path := (z5Access28, false) :: z5Accessp87
abbrev z5Accessp90 : Path := (z5Access34, true) :: z5Accessp89
abbrev z5Accessp91 : Path := (z5Access33, true) :: z5Accessp90
abbrev z5Accessp92 : Path := (z5Access33, false) :: z5Accessp90
abbrev z5Accessp93 : Path := (z5Access36, true) :: z5Accessp92
abbrev z5Accessp94 : Path := (z5Access35, true) :: z5Accessp93
abbrev z5Accessp95 : Path := (z5Access35, false) :: z5Accessp93
abbrev z5Accessp96 : Path := (z5Access36, false) :: z5Accessp92
abbrev z5Accessp97 : Path := (z5Access34, false) :: z5Accessp89
abbrev z5Accessp98 : Path := (z5Access25, false) :: z5Accessp70
abbrev z5Accessp99 : Path := (z5Access40, true) :: z5Accessp98
abbrev z5Accessp100 : Path := (z5Access40, false) :: z5Accessp98
abbrev z5Accessp101 : Path := (z5Access41, true) :: z5Accessp100
abbrev z5Accessp102 : Path := (z5Access41, false) :: z5Accessp100
abbrev z5Accessp103 : Path := (z5Access46, true) :: z5Accessp102
abbrev z5Accessp104 : Path := (z5Access45, true) :: z5Accessp103
abbrev z5Accessp105 : Path := (z5Access45, false) :: z5Accessp103
abbrev z5Accessp106 : Path := (z5Access46, false) :: z5Accessp102
abbrev z5Accessp107 : Path := (z5Access50, true) :: z5Accessp106
abbrev z5Accessp108 : Path := (z5Access49, true) :: z5Accessp107
abbrev z5Accessp109 : Path := (z5Access30, true) :: z5Accessp108
abbrev z5Accessp110 : Path := (z5Access30, false) :: z5Accessp108
abbrev z5Accessp111 : Path := (z5Access49, false) :: z5Accessp107
abbrev z5Accessp112 : Path := (z5Access50, false) :: z5Accessp106
theorem mAccess_ok : mAccess.t.ok SG prog 358 := by
  refine MSpec.ok tm4_ok mAccess rfl (by kernel_rfl) (
  allS_cons ⟨[⟨true, .one (.c (.bool (.bool false))), [(2, .res 0 z5Access2), (1, .cells (ch (cell1 (accessS false) 10 3) [(6, .int .i64 z5Access0), (7, .int .i64 z5Access3), (8, .int .i64 (.int 1)), (9, .int .u64 z5Access4), (11, .int .i64 z5Access5)]))], 61, z5Accessp58⟩,
    ⟨true, .one (.c (.bool (.bool true))), [(2, .res 0 z5Access2), (1, .cells (ch (cell1 (accessS false) 10 3) [(6, .int .i64 z5Access0), (7, .int .i64 z5Access3), (8, .int .i64 (.int 1)), (9, .int .u64 z5Access4), (11, .int .i64 z5Access5), (15, .int .i64 (.int 3)), (16, .int .u64 (.int 0)), (17, .int .i64 (.int 0)), (18, .int .i64 z5Access5)]))], 61, z5Accessp59⟩,
    ⟨true, .one (.c (.bool (.bool true))), [(2, .res 0 (.var 1)), (1, .cells (ch (cell1 (accessS false) 10 3) [(6, .int .i64 z5Access0), (7, .int .i64 z5Access3), (15, .int .i64 (.int 3)), (16, .int .u64 (.int 0)), (17, .int .i64 (.int 0)), (18, .int .i64 z5Access10)]))], 42, z5Accessp60⟩,
    ⟨true, .one (.c (.bool (.bool true))), [(2, .res 0 (.var 1)), (1, .cells (ch (cell1 (accessS false) 10 3) [(6, .int .i64 z5Access0), (7, .int .i64 z5Access3), (15, .int .i64 (.int 3)), (16, .int .u64 (.int 0)), (17, .int .i64 (.int 0)), (18, .int .i64 z5Access10)]))], 42, z5Accessp61⟩,
    ⟨true, .one (.c (.bool (.bool true))), [(2, .res 0 z5Access12), (1, .cells (ch (cell1 (accessS false) 10 3) [(8, .int .i64 (.int 2)), (13, .int .i64 z5Access14), (15, .int .i64 (.int 4)), (16, .int .u64 (.int 0)), (17, .int .i64 (.int 0)), (18, xi 21)]))], 77, z5Accessp65⟩,
    ⟨true, .one (.c (.bool (.bool false))), [(2, .res 0 z5Access12), (1, .cells (ch (cell1 (accessS false) 10 3) [(8, .int .i64 (.int 2)), (13, .int .i64 z5Access14)]))], 77, z5Accessp67⟩,
    ⟨true, .one (.c (.bool (.bool true))), [(2, .res 0 z5Access12), (1, .cells (ch (cell1 (accessS false) 10 3) [(8, .int .i64 (.int 2)), (13, .int .i64 z5Access14), (15, .int .i64 (.int 4)), (16, .int .u64 (.int 0)), (17, .int .i64 (.int 0)), (18, xi 21)]))], 77, z5Accessp68⟩,
    ⟨true, .one (.c (.bool (.bool true))), [(2, .res 0 z5Access12), (1, .cells (ch (cell1 (accessS false) 10 3) [(8, .int .i64 (.int 2)), (13, .int .i64 z5Access14), (15, .int .i64 (.int 3)), (16, .int .u64 (.int 0)), (17, .int .i64 (.int 0)), (18, .int .i64 z5Access19)]))], 60, z5Accessp69⟩,
    ⟨true, .one (.c (.bool (.bool false))), [(2, .res 0 z5Access21), (1, .cells (ch (cell1 (accessS false) 10 3) [(8, .int .i64 (.int 6)), (10, .int .u64 z5Access22), (12, .int .i64 z5Access23)]))], 77, z5Accessp72⟩,
    ⟨true, .one (.c (.bool (.bool false))), [(112, .res 3 z5Access26), (2, .res 0 z5Access21), (1, .cells (ch (cell1 (accessS false) 10 3) [(8, .int .i64 (.int 4)), (10, .int .u64 z5Access22), (12, .int .i64 z5Access23), (14, .ptr 112 (.int 0))]))], 113, z5Accessp76⟩,
    ⟨true, .one (.c (.bool (.bool false))), [(2, .res 0 z5Access21), (1, .cells (ch (cell1 (accessS false) 10 3) [(8, .int .i64 (.int 5)), (10, .int .u64 z5Access22), (12, .int .i64 z5Access23)]))], 94, z5Accessp79⟩,
    ⟨true, .one (.c (.bool (.bool false))), [(2, .res 0 z5Access21), (1, .cells (ch (cell1 (accessS false) 10 3) [(8, .int .i64 (.int 3)), (10, .int .u64 z5Access22), (12, .int .i64 z5Access23)]))], 94, z5Accessp82⟩,
    ⟨true, .one (.c (.bool (.bool false))), [(2, .res 0 z5Access21), (1, .cells (ch (cell1 (accessS false) 10 3) [(8, .int .i64 (.int 0)), (10, .int .u64 z5Access22), (12, .int .i64 z5Access23)]))], 94, z5Accessp83⟩,
    ⟨true, .one (.c (.bool (.bool false))), [(2, .res 0 z5Access21), (1, .cells (ch (cell1 (accessS false) 10 3) [(8, .int .i64 (.int 0)), (10, .int .u64 z5Access22), (12, .int .i64 z5Access23)]))], 94, z5Accessp84⟩,
    ⟨true, .one (.c (.bool (.bool false))), [(2, .res 0 z5Access21), (1, .cells (ch (cell1 (accessS false) 10 3) [(8, .int .i64 (.int 5)), (10, .int .u64 z5Access22), (12, .int .i64 z5Access23)]))], 94, z5Accessp85⟩,
    ⟨true, .one (.c (.bool (.bool false))), [(2, .res 0 z5Access21), (1, .cells (ch (cell1 (accessS false) 10 3) [(8, .int .i64 (.int 6)), (10, .int .u64 z5Access22), (12, .int .i64 z5Access23)]))], 94, z5Accessp86⟩,
    ⟨true, .one (.c (.bool (.bool false))), [(112, .res 3 z5Access26), (2, .res 0 z5Access21), (1, .cells (ch (cell1 (accessS false) 10 3) [(8, .int .i64 (.int 4)), (10, .int .u64 z5Access22), (12, .int .i64 z5Access23), (14, .ptr 112 (.int 0))]))], 113, z5Accessp88⟩,
    ⟨true, .one (.c (.bool (.bool false))), [(2, .res 0 z5Access21), (1, .cells (ch (cell1 (accessS false) 10 3) [(8, .int .i64 (.int 5)), (10, .int .u64 z5Access22), (12, .int .i64 z5Access23)]))], 94, z5Accessp91⟩,
    ⟨true, .one (.c (.bool (.bool false))), [(2, .res 0 z5Access21), (1, .cells (ch (cell1 (accessS false) 10 3) [(8, .int .i64 (.int 3)), (10, .int .u64 z5Access22), (12, .int .i64 z5Access23)]))], 94, z5Accessp94⟩,
    ⟨true, .one (.c (.bool (.bool false))), [(2, .res 0 z5Access21), (1, .cells (ch (cell1 (accessS false) 10 3) [(8, .int .i64 (.int 0)), (10, .int .u64 z5Access22), (12, .int .i64 z5Access23)]))], 94, z5Accessp95⟩,
    ⟨true, .one (.c (.bool (.bool false))), [(2, .res 0 z5Access21), (1, .cells (ch (cell1 (accessS false) 10 3) [(8, .int .i64 (.int 0)), (10, .int .u64 z5Access22), (12, .int .i64 z5Access23)]))], 94, z5Accessp96⟩,
    ⟨true, .one (.c (.bool (.bool false))), [(2, .res 0 z5Access21), (1, .cells (ch (cell1 (accessS false) 10 3) [(8, .int .i64 (.int 5)), (10, .int .u64 z5Access22), (12, .int .i64 z5Access23)]))], 94, z5Accessp97⟩,
    ⟨true, .one (.c (.bool (.bool false))), [(2, .res 0 z5Access39), (1, .cells (ch (cell1 (accessS false) 10 3) [(8, .int .i64 (.int 0))]))], 58, z5Accessp99⟩,
    ⟨true, .one (.c (.bool (.bool false))), [(2, .res 0 (.var 1)), (1, .cells (ch (cell1 (accessS false) 10 3) []))], 48, z5Accessp101⟩,
    ⟨true, .one (.c (.bool (.bool true))), [(2, .res 0 z5Access42), (1, .cells (ch (cell1 (accessS false) 10 3) [(8, .int .i64 (.int 0)), (15, .int .i64 (.int 0)), (16, .int .u64 (.int 0)), (17, .int .i64 z5Access43), (18, .int .i64 z5Access44)]))], 81, z5Accessp104⟩,
    ⟨true, .one (.c (.bool (.bool false))), [(2, .res 0 z5Access42), (1, .cells (ch (cell1 (accessS false) 10 3) [(8, .int .i64 (.int 0))]))], 70, z5Accessp105⟩,
    ⟨true, .one (.c (.bool (.bool true))), [(2, .res 0 z5Access47), (1, .cells (ch (cell1 (accessS false) 10 3) [(15, .int .i64 (.int 8)), (16, .int .u64 (.int 0)), (17, .int .i64 z5Access43), (18, xi 22)]))], 73, z5Accessp109⟩,
    ⟨true, .one (.c (.bool (.bool true))), [(2, .res 0 z5Access47), (1, .cells (ch (cell1 (accessS false) 10 3) [(15, .int .i64 (.int 0)), (16, .int .u64 (.int 0)), (17, .int .i64 z5Access43), (18, xi 22)]))], 73, z5Accessp110⟩,
    ⟨true, .one (.c (.bool (.bool false))), [(2, .res 0 z5Access47), (1, .cells (ch (cell1 (accessS false) 10 3) [(8, .int .i64 (.int 0))]))], 73, z5Accessp111⟩,
    ⟨true, .one (.c (.bool (.bool true))), [(2, .res 0 z5Access47), (1, .cells (ch (cell1 (accessS false) 10 3) [(15, .int .i64 (.int 3)), (16, .int .u64 (.int 0)), (17, .int .i64 (.int 0)), (18, .int .i64 z5Access51)]))], 63, z5Accessp112⟩], by as_aux_lemma => kernel_rfl,
    allC_cons (way1 (accessS false) (by simp [kinds]) (fun j => match j with | 6 => z5Access0 | 7 => z5Access3 | 8 => (.int 1) | 9 => z5Access4 | 11 => z5Access5 | j => .var (j + 10)) (fun j => match j with | 1 => 1 | _ => 0) (by kernel_rfl) rfl rfl rfl (by kernel_rfl) ?_) <|
    allC_cons (way1 (accessS false) (by simp [kinds]) (fun j => match j with | 6 => z5Access0 | 7 => z5Access3 | 8 => (.int 1) | 9 => z5Access4 | 11 => z5Access5 | 14 => (.int 3) | 15 => (.int 0) | 16 => (.int 0) | 17 => z5Access5 | j => .var (j + 10)) (fun j => match j with | 1 => 1 | _ => 0) (by kernel_rfl) rfl rfl rfl (by kernel_rfl) ?_) <|
    allC_cons (way1 (accessS false) (by simp [kinds]) (fun j => match j with | 6 => z5Access0 | 7 => z5Access3 | 14 => (.int 3) | 15 => (.int 0) | 16 => (.int 0) | 17 => z5Access10 | j => .var (j + 10)) (fun j => match j with | 1 => 1 | _ => 0) (by kernel_rfl) rfl rfl rfl (by kernel_rfl) ?_) <|
    allC_cons (way1 (accessS false) (by simp [kinds]) (fun j => match j with | 6 => z5Access0 | 7 => z5Access3 | 14 => (.int 3) | 15 => (.int 0) | 16 => (.int 0) | 17 => z5Access10 | j => .var (j + 10)) (fun j => match j with | 1 => 1 | _ => 0) (by kernel_rfl) rfl rfl rfl (by kernel_rfl) ?_) <|
    allC_cons (way1 (accessS false) (by simp [kinds]) (fun j => match j with | 8 => (.int 2) | 13 => z5Access14 | 14 => (.int 4) | 15 => (.int 0) | 16 => (.int 0) | 17 => (.var 21) | j => .var (j + 10)) (fun j => match j with | 1 => 1 | _ => 0) (by kernel_rfl) rfl rfl rfl (by kernel_rfl) ?_) <|
    allC_cons (way1 (accessS false) (by simp [kinds]) (fun j => match j with | 8 => (.int 2) | 13 => z5Access14 | j => .var (j + 10)) (fun j => match j with | 1 => 1 | _ => 0) (by kernel_rfl) rfl rfl rfl (by kernel_rfl) ?_) <|
    allC_cons (way1 (accessS false) (by simp [kinds]) (fun j => match j with | 8 => (.int 2) | 13 => z5Access14 | 14 => (.int 4) | 15 => (.int 0) | 16 => (.int 0) | 17 => (.var 21) | j => .var (j + 10)) (fun j => match j with | 1 => 1 | _ => 0) (by kernel_rfl) rfl rfl rfl (by kernel_rfl) ?_) <|
    allC_cons (way1 (accessS false) (by simp [kinds]) (fun j => match j with | 8 => (.int 2) | 13 => z5Access14 | 14 => (.int 3) | 15 => (.int 0) | 16 => (.int 0) | 17 => z5Access19 | j => .var (j + 10)) (fun j => match j with | 1 => 1 | _ => 0) (by kernel_rfl) rfl rfl rfl (by kernel_rfl) ?_) <|
    allC_cons (way1 (accessS false) (by simp [kinds]) (fun j => match j with | 8 => (.int 6) | 10 => z5Access22 | 12 => z5Access23 | j => .var (j + 10)) (fun j => match j with | 1 => 1 | _ => 0) (by kernel_rfl) rfl rfl rfl (by kernel_rfl) ?_) <|
    allC_cons (way1 (accessS true) (by simp [kinds]) (fun j => match j with | 8 => (.int 4) | 10 => z5Access22 | 12 => z5Access23 | 18 => z5Access26 | j => .var (j + 10)) (fun j => match j with | 2 => 112 | 1 => 1 | _ => 0) (by kernel_rfl) rfl rfl rfl (by kernel_rfl) ?_) <|
    allC_cons (way1 (accessS false) (by simp [kinds]) (fun j => match j with | 8 => (.int 5) | 10 => z5Access22 | 12 => z5Access23 | j => .var (j + 10)) (fun j => match j with | 1 => 1 | _ => 0) (by kernel_rfl) rfl rfl rfl (by kernel_rfl) ?_) <|
    allC_cons (way1 (accessS false) (by simp [kinds]) (fun j => match j with | 8 => (.int 3) | 10 => z5Access22 | 12 => z5Access23 | j => .var (j + 10)) (fun j => match j with | 1 => 1 | _ => 0) (by kernel_rfl) rfl rfl rfl (by kernel_rfl) ?_) <|
    allC_cons (way1 (accessS false) (by simp [kinds]) (fun j => match j with | 8 => (.int 0) | 10 => z5Access22 | 12 => z5Access23 | j => .var (j + 10)) (fun j => match j with | 1 => 1 | _ => 0) (by kernel_rfl) rfl rfl rfl (by kernel_rfl) ?_) <|
    allC_cons (way1 (accessS false) (by simp [kinds]) (fun j => match j with | 8 => (.int 0) | 10 => z5Access22 | 12 => z5Access23 | j => .var (j + 10)) (fun j => match j with | 1 => 1 | _ => 0) (by kernel_rfl) rfl rfl rfl (by kernel_rfl) ?_) <|
    allC_cons (way1 (accessS false) (by simp [kinds]) (fun j => match j with | 8 => (.int 5) | 10 => z5Access22 | 12 => z5Access23 | j => .var (j + 10)) (fun j => match j with | 1 => 1 | _ => 0) (by kernel_rfl) rfl rfl rfl (by kernel_rfl) ?_) <|
    allC_cons (way1 (accessS false) (by simp [kinds]) (fun j => match j with | 8 => (.int 6) | 10 => z5Access22 | 12 => z5Access23 | j => .var (j + 10)) (fun j => match j with | 1 => 1 | _ => 0) (by kernel_rfl) rfl rfl rfl (by kernel_rfl) ?_) <|
    allC_cons (way1 (accessS true) (by simp [kinds]) (fun j => match j with | 8 => (.int 4) | 10 => z5Access22 | 12 => z5Access23 | 18 => z5Access26 | j => .var (j + 10)) (fun j => match j with | 2 => 112 | 1 => 1 | _ => 0) (by kernel_rfl) rfl rfl rfl (by kernel_rfl) ?_) <|
    allC_cons (way1 (accessS false) (by simp [kinds]) (fun j => match j with | 8 => (.int 5) | 10 => z5Access22 | 12 => z5Access23 | j => .var (j + 10)) (fun j => match j with | 1 => 1 | _ => 0) (by kernel_rfl) rfl rfl rfl (by kernel_rfl) ?_) <|
    allC_cons (way1 (accessS false) (by simp [kinds]) (fun j => match j with | 8 => (.int 3) | 10 => z5Access22 | 12 => z5Access23 | j => .var (j + 10)) (fun j => match j with | 1 => 1 | _ => 0) (by kernel_rfl) rfl rfl rfl (by kernel_rfl) ?_) <|
    allC_cons (way1 (accessS false) (by simp [kinds]) (fun j => match j with | 8 => (.int 0) | 10 => z5Access22 | 12 => z5Access23 | j => .var (j + 10)) (fun j => match j with | 1 => 1 | _ => 0) (by kernel_rfl) rfl rfl rfl (by kernel_rfl) ?_) <|
    allC_cons (way1 (accessS false) (by simp [kinds]) (fun j => match j with | 8 => (.int 0) | 10 => z5Access22 | 12 => z5Access23 | j => .var (j + 10)) (fun j => match j with | 1 => 1 | _ => 0) (by kernel_rfl) rfl rfl rfl (by kernel_rfl) ?_) <|
    allC_cons (way1 (accessS false) (by simp [kinds]) (fun j => match j with | 8 => (.int 5) | 10 => z5Access22 | 12 => z5Access23 | j => .var (j + 10)) (fun j => match j with | 1 => 1 | _ => 0) (by kernel_rfl) rfl rfl rfl (by kernel_rfl) ?_) <|
    allC_cons (way1 (accessS false) (by simp [kinds]) (fun j => match j with | 8 => (.int 0) | j => .var (j + 10)) (fun j => match j with | 1 => 1 | _ => 0) (by kernel_rfl) rfl rfl rfl (by kernel_rfl) ?_) <|
    allC_cons (way1 (accessS false) (by simp [kinds]) (fun j => match j with  | j => .var (j + 10)) (fun j => match j with | 1 => 1 | _ => 0) (by kernel_rfl) rfl rfl rfl (by kernel_rfl) ?_) <|
    allC_cons (way1 (accessS false) (by simp [kinds]) (fun j => match j with | 8 => (.int 0) | 14 => (.int 0) | 15 => (.int 0) | 16 => z5Access43 | 17 => z5Access44 | j => .var (j + 10)) (fun j => match j with | 1 => 1 | _ => 0) (by kernel_rfl) rfl rfl rfl (by kernel_rfl) ?_) <|
    allC_cons (way1 (accessS false) (by simp [kinds]) (fun j => match j with | 8 => (.int 0) | j => .var (j + 10)) (fun j => match j with | 1 => 1 | _ => 0) (by kernel_rfl) rfl rfl rfl (by kernel_rfl) ?_) <|
    allC_cons (way1 (accessS false) (by simp [kinds]) (fun j => match j with | 14 => (.int 8) | 15 => (.int 0) | 16 => z5Access43 | 17 => (.var 22) | j => .var (j + 10)) (fun j => match j with | 1 => 1 | _ => 0) (by kernel_rfl) rfl rfl rfl (by kernel_rfl) ?_) <|
    allC_cons (way1 (accessS false) (by simp [kinds]) (fun j => match j with | 14 => (.int 0) | 15 => (.int 0) | 16 => z5Access43 | 17 => (.var 22) | j => .var (j + 10)) (fun j => match j with | 1 => 1 | _ => 0) (by kernel_rfl) rfl rfl rfl (by kernel_rfl) ?_) <|
    allC_cons (way1 (accessS false) (by simp [kinds]) (fun j => match j with | 8 => (.int 0) | j => .var (j + 10)) (fun j => match j with | 1 => 1 | _ => 0) (by kernel_rfl) rfl rfl rfl (by kernel_rfl) ?_) <|
    allC_cons (way1 (accessS false) (by simp [kinds]) (fun j => match j with | 14 => (.int 3) | 15 => (.int 0) | 16 => (.int 0) | 17 => z5Access51 | j => .var (j + 10)) (fun j => match j with | 1 => 1 | _ => 0) (by kernel_rfl) rfl rfl rfl (by kernel_rfl) ?_) <|
    allC_nil _⟩ <|
  allS_cons ⟨[⟨true, .one (.c (.bool (.bool false))), [(5, .res 3 (.var 28)), (2, .res 0 z5Access2), (1, .cells (ch (cell1 (accessS true) 10 3) [(6, .int .i64 z5Access0), (7, .int .i64 z5Access3), (8, .int .i64 (.int 1)), (9, .int .u64 z5Access4), (11, .int .i64 z5Access5)]))], 61, z5Accessp58⟩,
    ⟨true, .one (.c (.bool (.bool true))), [(5, .res 3 (.var 28)), (2, .res 0 z5Access2), (1, .cells (ch (cell1 (accessS true) 10 3) [(6, .int .i64 z5Access0), (7, .int .i64 z5Access3), (8, .int .i64 (.int 1)), (9, .int .u64 z5Access4), (11, .int .i64 z5Access5), (15, .int .i64 (.int 3)), (16, .int .u64 (.int 0)), (17, .int .i64 (.int 0)), (18, .int .i64 z5Access5)]))], 61, z5Accessp59⟩,
    ⟨true, .one (.c (.bool (.bool true))), [(5, .res 3 (.var 28)), (2, .res 0 (.var 1)), (1, .cells (ch (cell1 (accessS true) 10 3) [(6, .int .i64 z5Access0), (7, .int .i64 z5Access3), (15, .int .i64 (.int 3)), (16, .int .u64 (.int 0)), (17, .int .i64 (.int 0)), (18, .int .i64 z5Access10)]))], 42, z5Accessp60⟩,
    ⟨true, .one (.c (.bool (.bool true))), [(5, .res 3 (.var 28)), (2, .res 0 (.var 1)), (1, .cells (ch (cell1 (accessS true) 10 3) [(6, .int .i64 z5Access0), (7, .int .i64 z5Access3), (15, .int .i64 (.int 3)), (16, .int .u64 (.int 0)), (17, .int .i64 (.int 0)), (18, .int .i64 z5Access10)]))], 42, z5Accessp61⟩,
    ⟨true, .one (.c (.bool (.bool true))), [(5, .res 3 (.var 28)), (2, .res 0 z5Access12), (1, .cells (ch (cell1 (accessS true) 10 3) [(8, .int .i64 (.int 2)), (13, .int .i64 z5Access14), (15, .int .i64 (.int 4)), (16, .int .u64 (.int 0)), (17, .int .i64 (.int 0)), (18, xi 21)]))], 77, z5Accessp65⟩,
    ⟨true, .one (.c (.bool (.bool false))), [(5, .res 3 (.var 28)), (2, .res 0 z5Access12), (1, .cells (ch (cell1 (accessS true) 10 3) [(8, .int .i64 (.int 2)), (13, .int .i64 z5Access14)]))], 77, z5Accessp67⟩,
    ⟨true, .one (.c (.bool (.bool true))), [(5, .res 3 (.var 28)), (2, .res 0 z5Access12), (1, .cells (ch (cell1 (accessS true) 10 3) [(8, .int .i64 (.int 2)), (13, .int .i64 z5Access14), (15, .int .i64 (.int 4)), (16, .int .u64 (.int 0)), (17, .int .i64 (.int 0)), (18, xi 21)]))], 77, z5Accessp68⟩,
    ⟨true, .one (.c (.bool (.bool true))), [(5, .res 3 (.var 28)), (2, .res 0 z5Access12), (1, .cells (ch (cell1 (accessS true) 10 3) [(8, .int .i64 (.int 2)), (13, .int .i64 z5Access14), (15, .int .i64 (.int 3)), (16, .int .u64 (.int 0)), (17, .int .i64 (.int 0)), (18, .int .i64 z5Access19)]))], 60, z5Accessp69⟩,
    ⟨true, .one (.c (.bool (.bool false))), [(5, .res 3 (.var 28)), (2, .res 0 z5Access21), (1, .cells (ch (cell1 (accessS true) 10 3) [(8, .int .i64 (.int 6)), (10, .int .u64 z5Access22), (12, .int .i64 z5Access23)]))], 77, z5Accessp72⟩,
    ⟨true, .one (.c (.bool (.bool false))), [(112, .res 3 z5Access26), (5, .res 3 (.var 28)), (2, .res 0 z5Access21), (1, .cells (ch (cell1 (accessS true) 10 3) [(8, .int .i64 (.int 4)), (10, .int .u64 z5Access22), (12, .int .i64 z5Access23), (14, .ptr 112 (.int 0))]))], 113, z5Accessp76⟩,
    ⟨true, .one (.c (.bool (.bool false))), [(5, .res 3 (.var 28)), (2, .res 0 z5Access21), (1, .cells (ch (cell1 (accessS true) 10 3) [(8, .int .i64 (.int 5)), (10, .int .u64 z5Access22), (12, .int .i64 z5Access23)]))], 94, z5Accessp79⟩,
    ⟨true, .one (.c (.bool (.bool false))), [(5, .res 3 (.var 28)), (2, .res 0 z5Access21), (1, .cells (ch (cell1 (accessS true) 10 3) [(8, .int .i64 (.int 3)), (10, .int .u64 z5Access22), (12, .int .i64 z5Access23)]))], 94, z5Accessp82⟩,
    ⟨true, .one (.c (.bool (.bool false))), [(5, .res 3 (.var 28)), (2, .res 0 z5Access21), (1, .cells (ch (cell1 (accessS true) 10 3) [(8, .int .i64 (.int 0)), (10, .int .u64 z5Access22), (12, .int .i64 z5Access23)]))], 94, z5Accessp83⟩,
    ⟨true, .one (.c (.bool (.bool false))), [(5, .res 3 (.var 28)), (2, .res 0 z5Access21), (1, .cells (ch (cell1 (accessS true) 10 3) [(8, .int .i64 (.int 0)), (10, .int .u64 z5Access22), (12, .int .i64 z5Access23)]))], 94, z5Accessp84⟩,
    ⟨true, .one (.c (.bool (.bool false))), [(5, .res 3 (.var 28)), (2, .res 0 z5Access21), (1, .cells (ch (cell1 (accessS true) 10 3) [(8, .int .i64 (.int 5)), (10, .int .u64 z5Access22), (12, .int .i64 z5Access23)]))], 94, z5Accessp85⟩,
    ⟨true, .one (.c (.bool (.bool false))), [(5, .res 3 (.var 28)), (2, .res 0 z5Access21), (1, .cells (ch (cell1 (accessS true) 10 3) [(8, .int .i64 (.int 6)), (10, .int .u64 z5Access22), (12, .int .i64 z5Access23)]))], 94, z5Accessp86⟩,
    ⟨true, .one (.c (.bool (.bool false))), [(112, .res 3 z5Access26), (5, .res 3 (.var 28)), (2, .res 0 z5Access21), (1, .cells (ch (cell1 (accessS true) 10 3) [(8, .int .i64 (.int 4)), (10, .int .u64 z5Access22), (12, .int .i64 z5Access23), (14, .ptr 112 (.int 0))]))], 113, z5Accessp88⟩,
    ⟨true, .one (.c (.bool (.bool false))), [(5, .res 3 (.var 28)), (2, .res 0 z5Access21), (1, .cells (ch (cell1 (accessS true) 10 3) [(8, .int .i64 (.int 5)), (10, .int .u64 z5Access22), (12, .int .i64 z5Access23)]))], 94, z5Accessp91⟩,
    ⟨true, .one (.c (.bool (.bool false))), [(5, .res 3 (.var 28)), (2, .res 0 z5Access21), (1, .cells (ch (cell1 (accessS true) 10 3) [(8, .int .i64 (.int 3)), (10, .int .u64 z5Access22), (12, .int .i64 z5Access23)]))], 94, z5Accessp94⟩,
    ⟨true, .one (.c (.bool (.bool false))), [(5, .res 3 (.var 28)), (2, .res 0 z5Access21), (1, .cells (ch (cell1 (accessS true) 10 3) [(8, .int .i64 (.int 0)), (10, .int .u64 z5Access22), (12, .int .i64 z5Access23)]))], 94, z5Accessp95⟩,
    ⟨true, .one (.c (.bool (.bool false))), [(5, .res 3 (.var 28)), (2, .res 0 z5Access21), (1, .cells (ch (cell1 (accessS true) 10 3) [(8, .int .i64 (.int 0)), (10, .int .u64 z5Access22), (12, .int .i64 z5Access23)]))], 94, z5Accessp96⟩,
    ⟨true, .one (.c (.bool (.bool false))), [(5, .res 3 (.var 28)), (2, .res 0 z5Access21), (1, .cells (ch (cell1 (accessS true) 10 3) [(8, .int .i64 (.int 5)), (10, .int .u64 z5Access22), (12, .int .i64 z5Access23)]))], 94, z5Accessp97⟩,
    ⟨true, .one (.c (.bool (.bool false))), [(5, .res 3 (.var 28)), (2, .res 0 z5Access39), (1, .cells (ch (cell1 (accessS true) 10 3) [(8, .int .i64 (.int 0))]))], 58, z5Accessp99⟩,
    ⟨true, .one (.c (.bool (.bool false))), [(5, .res 3 z5Access52), (2, .res 0 z5Access53), (1, .cells (ch (cell1 (accessS true) 10 3) [(8, .int .i64 (.int 0))]))], 47, (z5Access54, true) :: z5Accessp101⟩,
    ⟨true, .one (.c (.bool (.bool false))), [(5, .res 3 z5Access52), (2, .res 0 z5Access53), (1, .cells (ch (cell1 (accessS true) 10 3) []))], 47, (z5Access54, false) :: z5Accessp101⟩,
    ⟨true, .one (.c (.bool (.bool true))), [(5, .res 3 (.var 28)), (2, .res 0 z5Access42), (1, .cells (ch (cell1 (accessS true) 10 3) [(8, .int .i64 (.int 0)), (15, .int .i64 (.int 0)), (16, .int .u64 (.int 0)), (17, .int .i64 z5Access43), (18, .int .i64 z5Access44)]))], 81, z5Accessp104⟩,
    ⟨true, .one (.c (.bool (.bool false))), [(5, .res 3 (.var 28)), (2, .res 0 z5Access42), (1, .cells (ch (cell1 (accessS true) 10 3) [(8, .int .i64 (.int 0))]))], 70, z5Accessp105⟩,
    ⟨true, .one (.c (.bool (.bool true))), [(5, .res 3 (.var 28)), (2, .res 0 z5Access47), (1, .cells (ch (cell1 (accessS true) 10 3) [(15, .int .i64 (.int 8)), (16, .int .u64 (.int 0)), (17, .int .i64 z5Access43), (18, xi 22)]))], 73, z5Accessp109⟩,
    ⟨true, .one (.c (.bool (.bool true))), [(5, .res 3 (.var 28)), (2, .res 0 z5Access47), (1, .cells (ch (cell1 (accessS true) 10 3) [(15, .int .i64 (.int 0)), (16, .int .u64 (.int 0)), (17, .int .i64 z5Access43), (18, xi 22)]))], 73, z5Accessp110⟩,
    ⟨true, .one (.c (.bool (.bool false))), [(5, .res 3 (.var 28)), (2, .res 0 z5Access47), (1, .cells (ch (cell1 (accessS true) 10 3) [(8, .int .i64 (.int 0))]))], 73, z5Accessp111⟩,
    ⟨true, .one (.c (.bool (.bool true))), [(5, .res 3 (.var 28)), (2, .res 0 z5Access47), (1, .cells (ch (cell1 (accessS true) 10 3) [(15, .int .i64 (.int 3)), (16, .int .u64 (.int 0)), (17, .int .i64 (.int 0)), (18, .int .i64 z5Access51)]))], 63, z5Accessp112⟩], by as_aux_lemma => kernel_rfl,
    allC_cons (way1 (accessS true) (by simp [kinds]) (fun j => match j with | 6 => z5Access0 | 7 => z5Access3 | 8 => (.int 1) | 9 => z5Access4 | 11 => z5Access5 | j => .var (j + 10)) (fun j => match j with | 2 => 5 | 1 => 1 | _ => 0) (by kernel_rfl) rfl rfl rfl (by kernel_rfl) ?_) <|
    allC_cons (way1 (accessS true) (by simp [kinds]) (fun j => match j with | 6 => z5Access0 | 7 => z5Access3 | 8 => (.int 1) | 9 => z5Access4 | 11 => z5Access5 | 14 => (.int 3) | 15 => (.int 0) | 16 => (.int 0) | 17 => z5Access5 | j => .var (j + 10)) (fun j => match j with | 2 => 5 | 1 => 1 | _ => 0) (by kernel_rfl) rfl rfl rfl (by kernel_rfl) ?_) <|
    allC_cons (way1 (accessS true) (by simp [kinds]) (fun j => match j with | 6 => z5Access0 | 7 => z5Access3 | 14 => (.int 3) | 15 => (.int 0) | 16 => (.int 0) | 17 => z5Access10 | j => .var (j + 10)) (fun j => match j with | 2 => 5 | 1 => 1 | _ => 0) (by kernel_rfl) rfl rfl rfl (by kernel_rfl) ?_) <|
    allC_cons (way1 (accessS true) (by simp [kinds]) (fun j => match j with | 6 => z5Access0 | 7 => z5Access3 | 14 => (.int 3) | 15 => (.int 0) | 16 => (.int 0) | 17 => z5Access10 | j => .var (j + 10)) (fun j => match j with | 2 => 5 | 1 => 1 | _ => 0) (by kernel_rfl) rfl rfl rfl (by kernel_rfl) ?_) <|
    allC_cons (way1 (accessS true) (by simp [kinds]) (fun j => match j with | 8 => (.int 2) | 13 => z5Access14 | 14 => (.int 4) | 15 => (.int 0) | 16 => (.int 0) | 17 => (.var 21) | j => .var (j + 10)) (fun j => match j with | 2 => 5 | 1 => 1 | _ => 0) (by kernel_rfl) rfl rfl rfl (by kernel_rfl) ?_) <|
    allC_cons (way1 (accessS true) (by simp [kinds]) (fun j => match j with | 8 => (.int 2) | 13 => z5Access14 | j => .var (j + 10)) (fun j => match j with | 2 => 5 | 1 => 1 | _ => 0) (by kernel_rfl) rfl rfl rfl (by kernel_rfl) ?_) <|
    allC_cons (way1 (accessS true) (by simp [kinds]) (fun j => match j with | 8 => (.int 2) | 13 => z5Access14 | 14 => (.int 4) | 15 => (.int 0) | 16 => (.int 0) | 17 => (.var 21) | j => .var (j + 10)) (fun j => match j with | 2 => 5 | 1 => 1 | _ => 0) (by kernel_rfl) rfl rfl rfl (by kernel_rfl) ?_) <|
    allC_cons (way1 (accessS true) (by simp [kinds]) (fun j => match j with | 8 => (.int 2) | 13 => z5Access14 | 14 => (.int 3) | 15 => (.int 0) | 16 => (.int 0) | 17 => z5Access19 | j => .var (j + 10)) (fun j => match j with | 2 => 5 | 1 => 1 | _ => 0) (by kernel_rfl) rfl rfl rfl (by kernel_rfl) ?_) <|
    allC_cons (way1 (accessS true) (by simp [kinds]) (fun j => match j with | 8 => (.int 6) | 10 => z5Access22 | 12 => z5Access23 | j => .var (j + 10)) (fun j => match j with | 2 => 5 | 1 => 1 | _ => 0) (by kernel_rfl) rfl rfl rfl (by kernel_rfl) ?_) <|
    allC_cons (way1 (accessS true) (by simp [kinds]) (fun j => match j with | 8 => (.int 4) | 10 => z5Access22 | 12 => z5Access23 | 18 => z5Access26 | j => .var (j + 10)) (fun j => match j with | 2 => 112 | 1 => 1 | _ => 0) (by kernel_rfl) rfl rfl rfl (by kernel_rfl) ?_) <|
    allC_cons (way1 (accessS true) (by simp [kinds]) (fun j => match j with | 8 => (.int 5) | 10 => z5Access22 | 12 => z5Access23 | j => .var (j + 10)) (fun j => match j with | 2 => 5 | 1 => 1 | _ => 0) (by kernel_rfl) rfl rfl rfl (by kernel_rfl) ?_) <|
    allC_cons (way1 (accessS true) (by simp [kinds]) (fun j => match j with | 8 => (.int 3) | 10 => z5Access22 | 12 => z5Access23 | j => .var (j + 10)) (fun j => match j with | 2 => 5 | 1 => 1 | _ => 0) (by kernel_rfl) rfl rfl rfl (by kernel_rfl) ?_) <|
    allC_cons (way1 (accessS true) (by simp [kinds]) (fun j => match j with | 8 => (.int 0) | 10 => z5Access22 | 12 => z5Access23 | j => .var (j + 10)) (fun j => match j with | 2 => 5 | 1 => 1 | _ => 0) (by kernel_rfl) rfl rfl rfl (by kernel_rfl) ?_) <|
    allC_cons (way1 (accessS true) (by simp [kinds]) (fun j => match j with | 8 => (.int 0) | 10 => z5Access22 | 12 => z5Access23 | j => .var (j + 10)) (fun j => match j with | 2 => 5 | 1 => 1 | _ => 0) (by kernel_rfl) rfl rfl rfl (by kernel_rfl) ?_) <|
    allC_cons (way1 (accessS true) (by simp [kinds]) (fun j => match j with | 8 => (.int 5) | 10 => z5Access22 | 12 => z5Access23 | j => .var (j + 10)) (fun j => match j with | 2 => 5 | 1 => 1 | _ => 0) (by kernel_rfl) rfl rfl rfl (by kernel_rfl) ?_) <|
    allC_cons (way1 (accessS true) (by simp [kinds]) (fun j => match j with | 8 => (.int 6) | 10 => z5Access22 | 12 => z5Access23 | j => .var (j + 10)) (fun j => match j with | 2 => 5 | 1 => 1 | _ => 0) (by kernel_rfl) rfl rfl rfl (by kernel_rfl) ?_) <|
    allC_cons (way1 (accessS true) (by simp [kinds]) (fun j => match j with | 8 => (.int 4) | 10 => z5Access22 | 12 => z5Access23 | 18 => z5Access26 | j => .var (j + 10)) (fun j => match j with | 2 => 112 | 1 => 1 | _ => 0) (by kernel_rfl) rfl rfl rfl (by kernel_rfl) ?_) <|
    allC_cons (way1 (accessS true) (by simp [kinds]) (fun j => match j with | 8 => (.int 5) | 10 => z5Access22 | 12 => z5Access23 | j => .var (j + 10)) (fun j => match j with | 2 => 5 | 1 => 1 | _ => 0) (by kernel_rfl) rfl rfl rfl (by kernel_rfl) ?_) <|
    allC_cons (way1 (accessS true) (by simp [kinds]) (fun j => match j with | 8 => (.int 3) | 10 => z5Access22 | 12 => z5Access23 | j => .var (j + 10)) (fun j => match j with | 2 => 5 | 1 => 1 | _ => 0) (by kernel_rfl) rfl rfl rfl (by kernel_rfl) ?_) <|
    allC_cons (way1 (accessS true) (by simp [kinds]) (fun j => match j with | 8 => (.int 0) | 10 => z5Access22 | 12 => z5Access23 | j => .var (j + 10)) (fun j => match j with | 2 => 5 | 1 => 1 | _ => 0) (by kernel_rfl) rfl rfl rfl (by kernel_rfl) ?_) <|
    allC_cons (way1 (accessS true) (by simp [kinds]) (fun j => match j with | 8 => (.int 0) | 10 => z5Access22 | 12 => z5Access23 | j => .var (j + 10)) (fun j => match j with | 2 => 5 | 1 => 1 | _ => 0) (by kernel_rfl) rfl rfl rfl (by kernel_rfl) ?_) <|
    allC_cons (way1 (accessS true) (by simp [kinds]) (fun j => match j with | 8 => (.int 5) | 10 => z5Access22 | 12 => z5Access23 | j => .var (j + 10)) (fun j => match j with | 2 => 5 | 1 => 1 | _ => 0) (by kernel_rfl) rfl rfl rfl (by kernel_rfl) ?_) <|
    allC_cons (way1 (accessS true) (by simp [kinds]) (fun j => match j with | 8 => (.int 0) | j => .var (j + 10)) (fun j => match j with | 2 => 5 | 1 => 1 | _ => 0) (by kernel_rfl) rfl rfl rfl (by kernel_rfl) ?_) <|
    allC_cons (way1 (accessS true) (by simp [kinds]) (fun j => match j with | 8 => (.int 0) | 18 => z5Access52 | j => .var (j + 10)) (fun j => match j with | 2 => 5 | 1 => 1 | _ => 0) (by kernel_rfl) rfl rfl rfl (by kernel_rfl) ?_) <|
    allC_cons (way1 (accessS true) (by simp [kinds]) (fun j => match j with | 18 => z5Access52 | j => .var (j + 10)) (fun j => match j with | 2 => 5 | 1 => 1 | _ => 0) (by kernel_rfl) rfl rfl rfl (by kernel_rfl) ?_) <|
    allC_cons (way1 (accessS true) (by simp [kinds]) (fun j => match j with | 8 => (.int 0) | 14 => (.int 0) | 15 => (.int 0) | 16 => z5Access43 | 17 => z5Access44 | j => .var (j + 10)) (fun j => match j with | 2 => 5 | 1 => 1 | _ => 0) (by kernel_rfl) rfl rfl rfl (by kernel_rfl) ?_) <|
    allC_cons (way1 (accessS true) (by simp [kinds]) (fun j => match j with | 8 => (.int 0) | j => .var (j + 10)) (fun j => match j with | 2 => 5 | 1 => 1 | _ => 0) (by kernel_rfl) rfl rfl rfl (by kernel_rfl) ?_) <|
    allC_cons (way1 (accessS true) (by simp [kinds]) (fun j => match j with | 14 => (.int 8) | 15 => (.int 0) | 16 => z5Access43 | 17 => (.var 22) | j => .var (j + 10)) (fun j => match j with | 2 => 5 | 1 => 1 | _ => 0) (by kernel_rfl) rfl rfl rfl (by kernel_rfl) ?_) <|
    allC_cons (way1 (accessS true) (by simp [kinds]) (fun j => match j with | 14 => (.int 0) | 15 => (.int 0) | 16 => z5Access43 | 17 => (.var 22) | j => .var (j + 10)) (fun j => match j with | 2 => 5 | 1 => 1 | _ => 0) (by kernel_rfl) rfl rfl rfl (by kernel_rfl) ?_) <|
    allC_cons (way1 (accessS true) (by simp [kinds]) (fun j => match j with | 8 => (.int 0) | j => .var (j + 10)) (fun j => match j with | 2 => 5 | 1 => 1 | _ => 0) (by kernel_rfl) rfl rfl rfl (by kernel_rfl) ?_) <|
    allC_cons (way1 (accessS true) (by simp [kinds]) (fun j => match j with | 14 => (.int 3) | 15 => (.int 0) | 16 => (.int 0) | 17 => z5Access51 | j => .var (j + 10)) (fun j => match j with | 2 => 5 | 1 => 1 | _ => 0) (by kernel_rfl) rfl rfl rfl (by kernel_rfl) ?_) <|
    allC_nil _⟩ <|
  allS_nil _)
  all_goals as_aux_lemma =>
    intro n hp hg hi
    simp only [pt_nil, pt_cons, E.den, sg_f1, sg_f2, sg_f3, sg_f4, f1_0, f1_1, f1_2, f1_3, f1_4, f1_5, f1_6, f1_10, f1_11, f1_12, f1_20, f1_21, f1_22, f1_23, f1_29, f1_32, f1_33, f1_34, f1_35, f1_41, f2_0, f2_20, f2_22, f3_0, f3_1, f3_2, f3_3, f3_4, f4_0, f4_12, f4_26, f4_27, f4_28, f4_36, f4_37, f4_38, O1.ap, O3.ap, ap_arith, ap_bits, ap_div, ap_shift, ap_eql, ap_lss, ap_beq, ap_min, ap_max, ap_nthI, ap_nthB, ap_inI, ap_inB, G.toInt_int, G.toBool_bool, G.toInts_ints, ltI_t, ltI_f, inN_t, inN_f, and_true, Nat.zero_add, Nat.reduceAdd, arith_add, arith_sub, arith_mul, i64, u64, cas_by, openAt, pinAt, gplace_u, ggive_u, ghelp_u, galloc_u, gdrop_u, gaccess_u, gact_u, glst_u, gmem_u, gactx_u, gquad_u, Bool.not_eq_true', Bool.not_eq_false', beq_iff_eq, beq_eq_false_iff_ne, ne_eq] at hp
    simp only [mAccess, stepSp, e4, giveS, helpS, placeS, allocS, dropS, accessS, optG, optH, optP, sg_f1, sg_f2, sg_f3, sg_f4, f1_0, f1_1, f1_2, f1_3, f1_4, f1_5, f1_6, f1_10, f1_11, f1_12, f1_20, f1_21, f1_22, f1_23, f1_29, f1_32, f1_33, f1_34, f1_35, f1_41, f2_0, f2_20, f2_22, f3_0, f3_1, f3_2, f3_3, f3_4, f4_0, f4_12, f4_26, f4_27, f4_28, f4_36, f4_37, f4_38, O1.ap, O3.ap, ap_arith, ap_bits, ap_div, ap_shift, ap_eql, ap_lss, ap_beq, ap_min, ap_max, ap_nthI, ap_nthB, ap_inI, ap_inB, G.toInt_int, G.toBool_bool, G.toInts_ints, ltI_t, ltI_f, inN_t, inN_f, and_true, Nat.zero_add, Nat.reduceAdd, arith_add, arith_sub, arith_mul, i64, u64, cas_by, openAt, pinAt] at hg hi
    first
    | (simp only [mAccess, stepSp, e4, giveS, helpS, placeS, allocS, dropS, accessS, optG, optH, optP, xi, xu, xb, SV.den, S2.den, S1.den, cellsDen, List.map, iE, uE, bE, E.den, sg_f1, sg_f2, sg_f3, sg_f4, f1_0, f1_1, f1_2, f1_3, f1_4, f1_5, f1_6, f1_10, f1_11, f1_12, f1_20, f1_21, f1_22, f1_23, f1_29, f1_32, f1_33, f1_34, f1_35, f1_41, f2_0, f2_20, f2_22, f3_0, f3_1, f3_2, f3_3, f3_4, f4_0, f4_12, f4_26, f4_27, f4_28, f4_36, f4_37, f4_38, O1.ap, O3.ap, ap_arith, ap_bits, ap_div, ap_shift, ap_eql, ap_lss, ap_beq, ap_min, ap_max, ap_nthI, ap_nthB, ap_inI, ap_inB, G.toInt_int, G.toBool_bool, G.toInts_ints, ltI_t, ltI_f, inN_t, inN_f, and_true, Nat.zero_add, Nat.reduceAdd, arith_add, arith_sub, arith_mul, i64, u64, cas_by, openAt, pinAt, hg, gplace_u, ggive_u, ghelp_u, galloc_u, gdrop_u, gaccess_u, gact_u, glst_u, gmem_u, accessStep, accEnd, accAt, accNext, hp, reduceIte, if_true, if_false, not_true, not_false_iff, Classical.not_not, true_and, and_true, false_and, and_false, true_or, or_true, false_or, or_false, Bool.not_true, Bool.not_false, Bool.and_true, Bool.and_false, Bool.false_and, Bool.true_and, decide_true, decide_false, Int.reduceEq, Bool.false_eq_true, Bool.true_eq_false]; done)
    | (simp only [mAccess, stepSp, e4, giveS, helpS, placeS, allocS, dropS, accessS, optG, optH, optP, xi, xu, xb, SV.den, S2.den, S1.den, cellsDen, List.map, iE, uE, bE, E.den, sg_f1, sg_f2, sg_f3, sg_f4, f1_0, f1_1, f1_2, f1_3, f1_4, f1_5, f1_6, f1_10, f1_11, f1_12, f1_20, f1_21, f1_22, f1_23, f1_29, f1_32, f1_33, f1_34, f1_35, f1_41, f2_0, f2_20, f2_22, f3_0, f3_1, f3_2, f3_3, f3_4, f4_0, f4_12, f4_26, f4_27, f4_28, f4_36, f4_37, f4_38, O1.ap, O3.ap, ap_arith, ap_bits, ap_div, ap_shift, ap_eql, ap_lss, ap_beq, ap_min, ap_max, ap_nthI, ap_nthB, ap_inI, ap_inB, G.toInt_int, G.toBool_bool, G.toInts_ints, ltI_t, ltI_f, inN_t, inN_f, and_true, Nat.zero_add, Nat.reduceAdd, arith_add, arith_sub, arith_mul, i64, u64, cas_by, openAt, pinAt, hg, gplace_u, ggive_u, ghelp_u, galloc_u, gdrop_u, gaccess_u, gact_u, glst_u, gmem_u, accessStep, accEnd, accAt, accNext]; simp [hp]; done)
    | (simp only [mAccess, stepSp, e4, giveS, helpS, placeS, allocS, dropS, accessS, optG, optH, optP, xi, xu, xb, SV.den, S2.den, S1.den, cellsDen, List.map, iE, uE, bE, E.den, sg_f1, sg_f2, sg_f3, sg_f4, f1_0, f1_1, f1_2, f1_3, f1_4, f1_5, f1_6, f1_10, f1_11, f1_12, f1_20, f1_21, f1_22, f1_23, f1_29, f1_32, f1_33, f1_34, f1_35, f1_41, f2_0, f2_20, f2_22, f3_0, f3_1, f3_2, f3_3, f3_4, f4_0, f4_12, f4_26, f4_27, f4_28, f4_36, f4_37, f4_38, O1.ap, O3.ap, ap_arith, ap_bits, ap_div, ap_shift, ap_eql, ap_lss, ap_beq, ap_min, ap_max, ap_nthI, ap_nthB, ap_inI, ap_inB, G.toInt_int, G.toBool_bool, G.toInts_ints, ltI_t, ltI_f, inN_t, inN_f, and_true, Nat.zero_add, Nat.reduceAdd, arith_add, arith_sub, arith_mul, i64, u64, cas_by, openAt, pinAt, hg, gplace_u, ggive_u, ghelp_u, galloc_u, gdrop_u, gaccess_u, gact_u, glst_u, gmem_u, accessStep, accEnd, accAt, accNext]; simp_all; done)
    | (exfalso; omega)
    | skip

end Go.Fl
