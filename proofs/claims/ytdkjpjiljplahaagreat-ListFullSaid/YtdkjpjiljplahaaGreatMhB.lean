/- Templates, level 8, shown. -/
import Derived.Test.YtdkjpjiljplahaaGreatMg
namespace Go.Fl
open Go Go.Sx Go.Proofs
variable [ExtF]
set_option linter.unusedSimpArgs false
set_option maxRecDepth 100000
set_option maxHeartbeats 100000000

abbrev z8List00 : E := .o2 .eql (.var 17) (.int 0)
abbrev z8List01 : E := .f4 51 (.f4 50 (.int 3) (.int 0) (.var 12) (.int 1)) (.int 0) (.int 0) (.bool true)
abbrev z8List02 : E := .f1 90 z8List01
abbrev z8List03 : E := .o2 .eql (.var 13) (.int 0)
abbrev z8List04 : E := .f1 91 z8List01
abbrev z8List05 : E := .f4 41 z8List04 (.var 1) (.var 2) (.var 3)
abbrev z8List06 : E := .f4 40 z8List04 (.var 1) (.var 2) (.var 3)
abbrev z8List07 : E := .f1 80 (.f1 74 z8List06)
abbrev z8List08 : E := .f1 75 z8List06
abbrev z8List09 : E := .o2 .eql (.var 10) (.int 2)
abbrev z8List010 : E := .o2 .eql z8List07 (.int 0)
abbrev z8List011 : E := .f1 72 z8List06
abbrev z8List012 : E := .o2 .eql z8List011 (.int 0)
abbrev z8List013 : E := .f4 42 z8List04 (.var 1) (.var 2) (.var 3)
abbrev z8List014 : E := .f4 51 (.f4 50 (.int 3) (.int 0) (.var 15) (.int 0)) (.int 0) (.int 0) (.bool true)
abbrev z8List015 : E := .f1 90 z8List014
abbrev z8List016 : E := .o2 .eql (.var 13) (.int 2)
abbrev z8List017 : E := .f1 91 z8List014
abbrev z8List018 : E := .f4 41 z8List017 (.var 1) (.var 2) (.var 3)
abbrev z8List019 : E := .f1 80 (.var 16)
abbrev z8List020 : E := .o2 .eql z8List019 (.int 0)
abbrev z8List021 : E := .f4 40 z8List017 (.var 1) (.var 2) (.var 3)
abbrev z8List022 : E := .f1 74 z8List021
abbrev z8List023 : E := .o2 .lss z8List022 (.var 11)
abbrev z8List024 : E := .o2 .eql (.f1 72 z8List021) (.int 0)
abbrev z8List025 : E := .f4 42 z8List017 (.var 1) (.var 2) (.var 3)
abbrev z8List026 : E := .o2 .eql (.var 10) (.int 3)
abbrev z8List027 : E := .o2 .eql z8List022 (.var 11)
abbrev z8List028 : E := .f4 50 (.int 5) (.int 0) (.var 14) (.int 1)
abbrev z8List029 : E := .o1 (.conv .i64) (.var 15)
abbrev z8List030 : E := .f4 51 z8List028 (.f2 40 z8List019 (.bool false)) z8List029 (.bool true)
abbrev z8List031 : E := .f1 90 z8List030
abbrev z8List032 : E := .o2 .eql (.var 13) (.int 3)
abbrev z8List033 : E := .f1 91 z8List030
abbrev z8List034 : E := .f4 41 z8List033 (.var 1) (.var 2) (.var 3)
abbrev z8List035 : E := .f4 40 z8List033 (.var 1) (.var 2) (.var 3)
abbrev z8List036 : E := .f1 75 z8List035
abbrev z8List037 : E := .o2 .eql (.f1 72 z8List035) (.int 0)
abbrev z8List038 : E := .f4 42 z8List033 (.var 1) (.var 2) (.var 3)
abbrev z8List039 : E := .o2 .eql (.var 13) (.int 10)
abbrev z8List040 : E := .f1 80 (.o2 (.bits .and .i64) (.var 16) (.int 4294967295))
abbrev z8List041 : E := .o2 .eql z8List040 (.int 0)
abbrev z8List042 : E := .f4 51 (.f4 50 (.int 2) (.int 0) (.var 15) (.int 0)) (.int 0) (.int 0) (.bool true)
abbrev z8List043 : E := .f1 90 z8List042
abbrev z8List044 : E := .o2 .eql (.var 13) (.int 4)
abbrev z8List045 : E := .f1 91 z8List042
abbrev z8List046 : E := .f4 41 z8List045 (.var 1) (.var 2) (.var 3)
abbrev z8List047 : E := .f4 42 z8List045 (.var 1) (.var 2) (.var 3)
abbrev z8List048 : E := .f4 40 z8List045 (.var 1) (.var 2) (.var 3)
abbrev z8List049 : E := .o2 .eql (.var 13) (.int 11)
abbrev z8List050 : E := .f4 51 (.f4 50 (.int 2) (.int 0) (.var 17) (.int 0)) (.int 0) (.int 0) (.bool true)
abbrev z8List051 : E := .f1 90 z8List050
abbrev z8List052 : E := .f1 91 z8List050
abbrev z8List053 : E := .f4 41 z8List052 (.var 1) (.var 2) (.var 3)
abbrev z8List054 : E := .f4 42 z8List052 (.var 1) (.var 2) (.var 3)
abbrev z8List055 : E := .f4 40 z8List052 (.var 1) (.var 2) (.var 3)
abbrev z8List056 : E := .f4 51 (.f4 50 (.int 1) (.int 2) (.int 0) (.int 0)) (.int 0) (.int 0) (.bool true)
abbrev z8List057 : E := .f1 90 z8List056
abbrev z8List058 : E := .o2 .eql (.var 13) (.int 5)
abbrev z8List059 : E := .f1 91 z8List056
abbrev z8List060 : E := .f4 41 z8List059 (.var 1) (.var 2) (.var 3)
abbrev z8List061 : E := .f4 40 z8List059 (.var 1) (.var 2) (.var 3)
abbrev z8List062 : E := .f1 73 z8List061
abbrev z8List063 : E := .f1 72 z8List061
abbrev z8List064 : E := .o2 .eql z8List063 (.int 0)
abbrev z8List065 : E := .f4 42 z8List059 (.var 1) (.var 2) (.var 3)
abbrev z8List066 : E := .f1 75 z8List061
abbrev z8List067 : E := .f4 51 (.f4 50 (.int 4) (.int 0) (.var 17) (.int 0)) (.var 11) (.int 0) (.bool true)
abbrev z8List068 : E := .f1 90 z8List067
abbrev z8List069 : E := .o2 .eql (.var 13) (.int 6)
abbrev z8List070 : E := .f1 91 z8List067
abbrev z8List071 : E := .f4 41 z8List070 (.var 1) (.var 2) (.var 3)
abbrev z8List072 : E := .f4 42 z8List070 (.var 1) (.var 2) (.var 3)
abbrev z8List073 : E := .f4 40 z8List070 (.var 1) (.var 2) (.var 3)
abbrev z8List074 : E := .f4 51 (.f4 50 (.int 4) (.int 0) (.var 17) (.int 1)) z8List029 (.int 0) (.bool true)
abbrev z8List075 : E := .f1 90 z8List074
abbrev z8List076 : E := .o2 .eql (.var 13) (.int 7)
abbrev z8List077 : E := .f1 91 z8List074
abbrev z8List078 : E := .f4 41 z8List077 (.var 1) (.var 2) (.var 3)
abbrev z8List079 : E := .f4 42 z8List077 (.var 1) (.var 2) (.var 3)
abbrev z8List080 : E := .f4 40 z8List077 (.var 1) (.var 2) (.var 3)
abbrev z8List081 : E := .f4 51 z8List028 (.o1 (.conv .i64) (.var 17)) z8List029 (.bool true)
abbrev z8List082 : E := .f1 90 z8List081
abbrev z8List083 : E := .o2 .eql (.var 13) (.int 8)
abbrev z8List084 : E := .f1 91 z8List081
abbrev z8List085 : E := .f4 41 z8List084 (.var 1) (.var 2) (.var 3)
abbrev z8List086 : E := .f4 40 z8List084 (.var 1) (.var 2) (.var 3)
abbrev z8List087 : E := .f1 75 z8List086
abbrev z8List088 : E := .o2 .eql (.f1 72 z8List086) (.int 0)
abbrev z8List089 : E := .f4 42 z8List084 (.var 1) (.var 2) (.var 3)
abbrev z8List090 : E := .f4 51 (.f4 50 (.int 5) (.int 0) (.var 15) (.int 1)) (.o2 (.bits .or .i64) (.var 16) (.int 4294967296)) (.var 16) (.bool true)
abbrev z8List091 : E := .f1 90 z8List090
abbrev z8List092 : E := .o2 .eql (.var 13) (.int 9)
abbrev z8List093 : E := .f1 91 z8List090
abbrev z8List094 : E := .f4 41 z8List093 (.var 1) (.var 2) (.var 3)
abbrev z8List095 : E := .f4 40 z8List093 (.var 1) (.var 2) (.var 3)
abbrev z8List096 : E := .f1 75 z8List095
abbrev z8List097 : E := .o2 .eql (.f1 72 z8List095) (.int 0)
abbrev z8List098 : E := .f4 42 z8List093 (.var 1) (.var 2) (.var 3)
abbrev z8List099 : E := .o2 .eql (.var 13) (.int 1)
abbrev z8List0100 : E := .f4 51 (.f4 50 (.int 3) (.int 0) (.var 15) (.int 1)) (.int 0) (.int 0) (.bool true)
abbrev z8List0101 : E := .f1 90 z8List0100
abbrev z8List0102 : E := .f1 91 z8List0100
abbrev z8List0103 : E := .f4 41 z8List0102 (.var 1) (.var 2) (.var 3)
abbrev z8List0104 : E := .f4 40 z8List0102 (.var 1) (.var 2) (.var 3)
abbrev z8List0105 : E := .f1 74 z8List0104
abbrev z8List0106 : E := .f1 81 z8List0105
abbrev z8List0107 : E := .o2 .eql (.f1 72 z8List0104) (.int 0)
abbrev z8List0108 : E := .f4 42 z8List0102 (.var 1) (.var 2) (.var 3)
abbrev z8List0109 : E := .f1 75 z8List0104
abbrev z8List0p110 : Path := [(z8List03, true)]
abbrev z8List0p111 : Path := (z8List02, false) :: z8List0p110
abbrev z8List0p112 : Path := (z8List02, true) :: z8List0p110
abbrev z8List0p113 : Path := (z8List013, true) :: z8List0p112
abbrev z8List0p114 : Path := (z8List012, true) :: z8List0p113
abbrev z8List0p115 : Path := (z8List010, true) :: z8List0p114
abbrev z8List0p116 : Path := (z8List09, true) :: z8List0p115
abbrev z8List0p117 : Path := (z8List09, false) :: z8List0p115
abbrev z8List0p118 : Path := (z8List012, false) :: z8List0p113
abbrev z8List0p119 : Path := [(z8List03, false)]
abbrev z8List0p120 : Path := (z8List016, true) :: z8List0p119
abbrev z8List0p121 : Path := (z8List015, true) :: z8List0p120
abbrev z8List0p122 : Path := (z8List025, true) :: z8List0p121
abbrev z8List0p123 : Path := (z8List024, true) :: z8List0p122
abbrev z8List0p124 : Path := (z8List023, true) :: z8List0p123
abbrev z8List0p125 : Path := (z8List020, true) :: z8List0p124
abbrev z8List0p126 : Path := (z8List09, true) :: z8List0p125
abbrev z8List0p127 : Path := (z8List09, false) :: z8List0p125
abbrev z8List0p128 : Path := (z8List023, false) :: z8List0p123
abbrev z8List0p129 : Path := (z8List027, true) :: z8List0p128
abbrev z8List0p130 : Path := (z8List026, false) :: z8List0p129
abbrev z8List0p131 : Path := (z8List09, true) :: z8List0p130
abbrev z8List0p132 : Path := (z8List09, false) :: z8List0p130
abbrev z8List0p133 : Path := (z8List027, false) :: z8List0p128
abbrev z8List0p134 : Path := (z8List09, true) :: z8List0p133
abbrev z8List0p135 : Path := (z8List09, false) :: z8List0p133
abbrev z8List0p136 : Path := (z8List016, false) :: z8List0p119
abbrev z8List0p137 : Path := (z8List032, true) :: z8List0p136
abbrev z8List0p138 : Path := (z8List031, true) :: z8List0p137
abbrev z8List0p139 : Path := (z8List038, true) :: z8List0p138
abbrev z8List0p140 : Path := (z8List032, false) :: z8List0p136
abbrev z8List0p141 : Path := (z8List039, true) :: z8List0p140
abbrev z8List0p142 : Path := (z8List031, true) :: z8List0p141
abbrev z8List0p143 : Path := (z8List039, false) :: z8List0p140
abbrev z8List0p144 : Path := (z8List044, true) :: z8List0p143
abbrev z8List0p145 : Path := (z8List043, false) :: z8List0p144
abbrev z8List0p146 : Path := (z8List041, true) :: z8List0p145
abbrev z8List0p147 : Path := (z8List09, true) :: z8List0p146
abbrev z8List0p148 : Path := (z8List09, false) :: z8List0p146
abbrev z8List0p149 : Path := (z8List043, true) :: z8List0p144
abbrev z8List0p150 : Path := (z8List047, true) :: z8List0p149
abbrev z8List0p151 : Path := (z8List041, true) :: z8List0p150
abbrev z8List0p152 : Path := (z8List09, true) :: z8List0p151
abbrev z8List0p153 : Path := (z8List09, false) :: z8List0p151
abbrev z8List0p154 : Path := (z8List044, false) :: z8List0p143
abbrev z8List0p155 : Path := (z8List049, true) :: z8List0p154
abbrev z8List0p156 : Path := (z8List00, true) :: z8List0p155
abbrev z8List0p157 : Path := (z8List043, true) :: z8List0p156
abbrev z8List0p158 : Path := (z8List00, false) :: z8List0p155
abbrev z8List0p159 : Path := (z8List051, true) :: z8List0p158
abbrev z8List0p160 : Path := (z8List049, false) :: z8List0p154
abbrev z8List0p161 : Path := (z8List058, true) :: z8List0p160
abbrev z8List0p162 : Path := (z8List057, false) :: z8List0p161
abbrev z8List0p163 : Path := (z8List057, true) :: z8List0p161
abbrev z8List0p164 : Path := (z8List065, true) :: z8List0p163
abbrev z8List0p165 : Path := (z8List064, false) :: z8List0p164
abbrev z8List0p166 : Path := (z8List058, false) :: z8List0p160
abbrev z8List0p167 : Path := (z8List069, true) :: z8List0p166
abbrev z8List0p168 : Path := (z8List068, true) :: z8List0p167
abbrev z8List0p169 : Path := (z8List069, false) :: z8List0p166
abbrev z8List0p170 : Path := (z8List076, true) :: z8List0p169
abbrev z8List0p171 : Path := (z8List075, true) :: z8List0p170
abbrev z8List0p172 : Path := (z8List076, false) :: z8List0p169
abbrev z8List0p173 : Path := (z8List083, true) :: z8List0p172
abbrev z8List0p174 : Path := (z8List082, true) :: z8List0p173
abbrev z8List0p175 : Path := (z8List089, true) :: z8List0p174
abbrev z8List0p176 : Path := (z8List083, false) :: z8List0p172
abbrev z8List0p177 : Path := (z8List092, true) :: z8List0p176
abbrev z8List0p178 : Path := (z8List091, true) :: z8List0p177
abbrev z8List0p179 : Path := (z8List098, true) :: z8List0p178
abbrev z8List0p180 : Path := (z8List092, false) :: z8List0p176
abbrev z8List0p181 : Path := (z8List0101, false) :: z8List0p180
abbrev z8List0p182 : Path := (z8List0101, true) :: z8List0p180
abbrev z8List0p183 : Path := (z8List0108, true) :: z8List0p182
abbrev z8List0p184 : Path := (z8List099, true) :: z8List0p183
abbrev z8List0p185 : Path := (z8List0107, true) :: z8List0p184
theorem mList_c0 : CaseOK tm7 mList 36 (listS false) := by
  refine (
  ⟨[⟨true, .one (.c (.bool (.bool true))), [(2, .res 0 (.var 1)), (1, .cells (ch (cell1 (listS false) 10 3) [(10, .int .i64 (.int 1)), (11, .int .u64 (.int 0)), (12, .int .i64 (.int 0)), (13, .int .i64 (.int 0))]))], 56, (z8List00, true) :: z8List0p111⟩,
    ⟨true, .one (.c (.bool (.bool false))), [(2, .res 0 (.var 1)), (1, .cells (ch (cell1 (listS false) 10 3) [(3, .int .i64 (.int 11)), (10, .int .i64 (.int 1)), (11, .int .u64 (.int 0)), (12, .int .i64 (.int 0)), (13, .int .i64 (.int 0))]))], 56, (z8List00, false) :: z8List0p111⟩,
    ⟨true, .one (.c (.bool (.bool false))), [(2, .res 0 z8List05), (1, .cells (ch (cell1 (listS false) 10 3) [(3, .int .i64 (.int 5)), (5, xu 12), (6, .int .u64 z8List07), (9, .int .i64 z8List08)]))], 69, (z8List00, true) :: z8List0p116⟩,
    ⟨true, .one (.c (.bool (.bool false))), [(2, .res 0 z8List05), (1, .cells (ch (cell1 (listS false) 10 3) [(3, .int .i64 (.int 7)), (5, xu 12), (6, .int .u64 z8List07), (9, .int .i64 z8List08)]))], 69, (z8List00, false) :: z8List0p116⟩,
    ⟨true, .one (.c (.bool (.bool true))), [(2, .res 0 z8List05), (1, .cells (ch (cell1 (listS false) 10 3) [(5, xu 12), (6, .int .u64 z8List07), (9, .int .i64 z8List08), (10, .int .i64 (.int 0)), (11, .int .u64 (.int 0)), (12, .int .i64 (.int 0)), (13, .int .i64 z8List08)]))], 69, (z8List00, true) :: z8List0p117⟩,
    ⟨true, .one (.c (.bool (.bool false))), [(2, .res 0 z8List05), (1, .cells (ch (cell1 (listS false) 10 3) [(3, .int .i64 (.int 11)), (5, xu 12), (6, .int .u64 z8List07), (9, .int .i64 z8List08), (10, .int .i64 (.int 0)), (11, .int .u64 (.int 0)), (12, .int .i64 (.int 0)), (13, .int .i64 z8List08)]))], 69, (z8List00, false) :: z8List0p117⟩,
    ⟨true, .one (.c (.bool (.bool false))), [(2, .res 0 z8List05), (1, .cells (ch (cell1 (listS false) 10 3) [(3, .int .i64 (.int 1)), (5, xu 12), (6, .int .u64 z8List07), (9, .int .i64 z8List08)]))], 69, (z8List010, false) :: z8List0p114⟩,
    ⟨true, .one (.c (.bool (.bool true))), [(2, .res 0 z8List05), (1, .cells (ch (cell1 (listS false) 10 3) [(10, .int .i64 z8List011), (11, .int .u64 (.int 0)), (12, .int .i64 (.int 0)), (13, .int .i64 z8List08)]))], 58, (z8List00, true) :: z8List0p118⟩,
    ⟨true, .one (.c (.bool (.bool false))), [(2, .res 0 z8List05), (1, .cells (ch (cell1 (listS false) 10 3) [(3, .int .i64 (.int 11)), (10, .int .i64 z8List011), (11, .int .u64 (.int 0)), (12, .int .i64 (.int 0)), (13, .int .i64 z8List08)]))], 58, (z8List00, false) :: z8List0p118⟩,
    ⟨true, .one (.c (.bool (.bool false))), [(48, .res 7 z8List06), (2, .res 0 z8List05), (1, .cells (ch (cell1 (listS false) 10 3) [(4, .ptr 48 (.int 0))]))], 56, (z8List013, false) :: z8List0p112⟩,
    ⟨true, .one (.c (.bool (.bool false))), [(2, .res 0 (.var 1)), (1, .cells (ch (cell1 (listS false) 10 3) [(3, .int .i64 (.int 0))]))], 56, (z8List015, false) :: z8List0p120⟩,
    ⟨true, .one (.c (.bool (.bool false))), [(2, .res 0 z8List018), (1, .cells (ch (cell1 (listS false) 10 3) [(3, .int .i64 (.int 5)), (5, xu 15), (6, .int .u64 z8List019), (9, xi 22)]))], 82, (z8List00, true) :: z8List0p126⟩,
    ⟨true, .one (.c (.bool (.bool false))), [(2, .res 0 z8List018), (1, .cells (ch (cell1 (listS false) 10 3) [(3, .int .i64 (.int 7)), (5, xu 15), (6, .int .u64 z8List019), (9, xi 22)]))], 82, (z8List00, false) :: z8List0p126⟩,
    ⟨true, .one (.c (.bool (.bool true))), [(2, .res 0 z8List018), (1, .cells (ch (cell1 (listS false) 10 3) [(5, xu 15), (6, .int .u64 z8List019), (9, xi 22), (10, .int .i64 (.int 0)), (11, .int .u64 (.int 0)), (12, .int .i64 (.int 0))]))], 82, (z8List00, true) :: z8List0p127⟩,
    ⟨true, .one (.c (.bool (.bool false))), [(2, .res 0 z8List018), (1, .cells (ch (cell1 (listS false) 10 3) [(3, .int .i64 (.int 11)), (5, xu 15), (6, .int .u64 z8List019), (9, xi 22), (10, .int .i64 (.int 0)), (11, .int .u64 (.int 0)), (12, .int .i64 (.int 0))]))], 82, (z8List00, false) :: z8List0p127⟩,
    ⟨true, .one (.c (.bool (.bool false))), [(2, .res 0 z8List018), (1, .cells (ch (cell1 (listS false) 10 3) [(3, .int .i64 (.int 1)), (5, xu 15), (6, .int .u64 z8List019), (9, xi 22)]))], 82, (z8List020, false) :: z8List0p124⟩,
    ⟨true, .one (.c (.bool (.bool false))), [(2, .res 0 z8List018), (1, .cells (ch (cell1 (listS false) 10 3) [(3, .int .i64 (.int 9))]))], 74, (z8List026, true) :: z8List0p129⟩,
    ⟨true, .one (.c (.bool (.bool true))), [(2, .res 0 z8List018), (1, .cells (ch (cell1 (listS false) 10 3) [(10, .int .i64 (.int 0)), (11, .int .u64 (.int 0)), (12, .int .i64 (.int 0))]))], 74, (z8List00, true) :: z8List0p131⟩,
    ⟨true, .one (.c (.bool (.bool false))), [(2, .res 0 z8List018), (1, .cells (ch (cell1 (listS false) 10 3) [(3, .int .i64 (.int 11)), (10, .int .i64 (.int 0)), (11, .int .u64 (.int 0)), (12, .int .i64 (.int 0))]))], 74, (z8List00, false) :: z8List0p131⟩,
    ⟨true, .one (.c (.bool (.bool true))), [(2, .res 0 z8List018), (1, .cells (ch (cell1 (listS false) 10 3) [(10, .int .i64 (.int 0)), (11, .int .u64 (.int 0)), (12, .int .i64 (.int 1))]))], 74, (z8List00, true) :: z8List0p132⟩,
    ⟨true, .one (.c (.bool (.bool false))), [(2, .res 0 z8List018), (1, .cells (ch (cell1 (listS false) 10 3) [(3, .int .i64 (.int 11)), (10, .int .i64 (.int 0)), (11, .int .u64 (.int 0)), (12, .int .i64 (.int 1))]))], 74, (z8List00, false) :: z8List0p132⟩,
    ⟨true, .one (.c (.bool (.bool false))), [(2, .res 0 z8List018), (1, .cells (ch (cell1 (listS false) 10 3) [(3, .int .i64 (.int 5))]))], 74, (z8List00, true) :: z8List0p134⟩,
    ⟨true, .one (.c (.bool (.bool false))), [(2, .res 0 z8List018), (1, .cells (ch (cell1 (listS false) 10 3) [(3, .int .i64 (.int 7))]))], 74, (z8List00, false) :: z8List0p134⟩,
    ⟨true, .one (.c (.bool (.bool true))), [(2, .res 0 z8List018), (1, .cells (ch (cell1 (listS false) 10 3) [(10, .int .i64 (.int 0)), (11, .int .u64 (.int 0)), (12, .int .i64 (.int 0)), (13, xi 18)]))], 74, (z8List00, true) :: z8List0p135⟩,
    ⟨true, .one (.c (.bool (.bool false))), [(2, .res 0 z8List018), (1, .cells (ch (cell1 (listS false) 10 3) [(3, .int .i64 (.int 11)), (10, .int .i64 (.int 0)), (11, .int .u64 (.int 0)), (12, .int .i64 (.int 0)), (13, xi 18)]))], 74, (z8List00, false) :: z8List0p135⟩,
    ⟨true, .one (.c (.bool (.bool false))), [(2, .res 0 z8List018), (1, .cells (ch (cell1 (listS false) 10 3) [(3, .int .i64 (.int 0))]))], 58, (z8List024, false) :: z8List0p122⟩,
    ⟨true, .one (.c (.bool (.bool false))), [(48, .res 7 z8List021), (2, .res 0 z8List018), (1, .cells (ch (cell1 (listS false) 10 3) [(4, .ptr 48 (.int 0))]))], 56, (z8List025, false) :: z8List0p121⟩,
    ⟨true, .one (.c (.bool (.bool false))), [(2, .res 0 (.var 1)), (1, .cells (ch (cell1 (listS false) 10 3) [(3, .int .i64 (.int 0))]))], 75, (z8List031, false) :: z8List0p137⟩,
    ⟨true, .one (.c (.bool (.bool false))), [(2, .res 0 z8List034), (1, .cells (ch (cell1 (listS false) 10 3) [(3, .int .i64 (.int 4)), (9, .int .i64 z8List036)]))], 77, (z8List037, true) :: z8List0p139⟩,
    ⟨true, .one (.c (.bool (.bool false))), [(2, .res 0 z8List034), (1, .cells (ch (cell1 (listS false) 10 3) [(3, .int .i64 (.int 0))]))], 77, (z8List037, false) :: z8List0p139⟩,
    ⟨true, .one (.c (.bool (.bool false))), [(67, .res 7 z8List035), (2, .res 0 z8List034), (1, .cells (ch (cell1 (listS false) 10 3) [(4, .ptr 67 (.int 0))]))], 75, (z8List038, false) :: z8List0p138⟩,
    ⟨true, .one (.c (.bool (.bool true))), [(2, .res 0 (.var 1)), (1, .cells (ch (cell1 (listS false) 10 3) [(3, .int .i64 (.int 11))]))], 75, (z8List031, false) :: z8List0p141⟩,
    ⟨true, .one (.c (.bool (.o1 .not z8List037))), [(2, .res 0 z8List034), (1, .cells (ch (cell1 (listS false) 10 3) [(3, .int .i64 (.int 11))]))], 77, (z8List038, true) :: z8List0p142⟩,
    ⟨true, .one (.c (.bool (.bool false))), [(67, .res 7 z8List035), (2, .res 0 z8List034), (1, .cells (ch (cell1 (listS false) 10 3) [(4, .ptr 67 (.int 0))]))], 75, (z8List038, false) :: z8List0p142⟩,
    ⟨true, .one (.c (.bool (.bool false))), [(2, .res 0 (.var 1)), (1, .cells (ch (cell1 (listS false) 10 3) [(3, .int .i64 (.int 5)), (6, .int .u64 z8List040)]))], 72, (z8List00, true) :: z8List0p147⟩,
    ⟨true, .one (.c (.bool (.bool false))), [(2, .res 0 (.var 1)), (1, .cells (ch (cell1 (listS false) 10 3) [(3, .int .i64 (.int 7)), (6, .int .u64 z8List040)]))], 72, (z8List00, false) :: z8List0p147⟩,
    ⟨true, .one (.c (.bool (.bool true))), [(2, .res 0 (.var 1)), (1, .cells (ch (cell1 (listS false) 10 3) [(6, .int .u64 z8List040), (10, .int .i64 (.int 0)), (11, .int .u64 (.int 0)), (12, .int .i64 (.int 0)), (13, xi 18)]))], 72, (z8List00, true) :: z8List0p148⟩,
    ⟨true, .one (.c (.bool (.bool false))), [(2, .res 0 (.var 1)), (1, .cells (ch (cell1 (listS false) 10 3) [(3, .int .i64 (.int 11)), (6, .int .u64 z8List040), (10, .int .i64 (.int 0)), (11, .int .u64 (.int 0)), (12, .int .i64 (.int 0)), (13, xi 18)]))], 72, (z8List00, false) :: z8List0p148⟩,
    ⟨true, .one (.c (.bool (.bool false))), [(2, .res 0 (.var 1)), (1, .cells (ch (cell1 (listS false) 10 3) [(3, .int .i64 (.int 1)), (6, .int .u64 z8List040)]))], 72, (z8List041, false) :: z8List0p145⟩,
    ⟨true, .one (.c (.bool (.bool false))), [(2, .res 0 z8List046), (1, .cells (ch (cell1 (listS false) 10 3) [(3, .int .i64 (.int 5)), (6, .int .u64 z8List040)]))], 73, (z8List00, true) :: z8List0p152⟩,
    ⟨true, .one (.c (.bool (.bool false))), [(2, .res 0 z8List046), (1, .cells (ch (cell1 (listS false) 10 3) [(3, .int .i64 (.int 7)), (6, .int .u64 z8List040)]))], 73, (z8List00, false) :: z8List0p152⟩,
    ⟨true, .one (.c (.bool (.bool true))), [(2, .res 0 z8List046), (1, .cells (ch (cell1 (listS false) 10 3) [(6, .int .u64 z8List040), (10, .int .i64 (.int 0)), (11, .int .u64 (.int 0)), (12, .int .i64 (.int 0)), (13, xi 18)]))], 73, (z8List00, true) :: z8List0p153⟩,
    ⟨true, .one (.c (.bool (.bool false))), [(2, .res 0 z8List046), (1, .cells (ch (cell1 (listS false) 10 3) [(3, .int .i64 (.int 11)), (6, .int .u64 z8List040), (10, .int .i64 (.int 0)), (11, .int .u64 (.int 0)), (12, .int .i64 (.int 0)), (13, xi 18)]))], 73, (z8List00, false) :: z8List0p153⟩,
    ⟨true, .one (.c (.bool (.bool false))), [(2, .res 0 z8List046), (1, .cells (ch (cell1 (listS false) 10 3) [(3, .int .i64 (.int 1)), (6, .int .u64 z8List040)]))], 73, (z8List041, false) :: z8List0p150⟩,
    ⟨true, .one (.c (.bool (.bool false))), [(47, .res 7 z8List048), (2, .res 0 z8List046), (1, .cells (ch (cell1 (listS false) 10 3) [(4, .ptr 47 (.int 0))]))], 55, (z8List047, false) :: z8List0p149⟩,
    ⟨true, .one (.c (.bool (.bool true))), [(2, .res 0 (.var 1)), (1, .cells (ch (cell1 (listS false) 10 3) []))], 56, (z8List043, false) :: z8List0p156⟩,
    ⟨true, .one (.c (.bool (.bool true))), [(2, .res 0 z8List046), (1, .cells (ch (cell1 (listS false) 10 3) []))], 57, (z8List047, true) :: z8List0p157⟩,
    ⟨true, .one (.c (.bool (.bool false))), [(47, .res 7 z8List048), (2, .res 0 z8List046), (1, .cells (ch (cell1 (listS false) 10 3) [(4, .ptr 47 (.int 0))]))], 55, (z8List047, false) :: z8List0p157⟩,
    ⟨true, .one (.c (.bool (.bool true))), [(2, .res 0 (.var 1)), (1, .cells (ch (cell1 (listS false) 10 3) []))], 56, (z8List051, false) :: z8List0p158⟩,
    ⟨true, .one (.c (.bool (.bool true))), [(2, .res 0 z8List053), (1, .cells (ch (cell1 (listS false) 10 3) []))], 57, (z8List054, true) :: z8List0p159⟩,
    ⟨true, .one (.c (.bool (.bool false))), [(47, .res 7 z8List055), (2, .res 0 z8List053), (1, .cells (ch (cell1 (listS false) 10 3) [(4, .ptr 47 (.int 0))]))], 55, (z8List054, false) :: z8List0p159⟩,
    ⟨true, .one (.c (.bool (.bool true))), [(2, .res 0 (.var 1)), (1, .cells (ch (cell1 (listS false) 10 3) [(10, .int .i64 (.int 1)), (11, .int .u64 (.int 0)), (12, .int .i64 (.int 0)), (13, .int .i64 (.int 0))]))], 56, (z8List00, true) :: z8List0p162⟩,
    ⟨true, .one (.c (.bool (.bool false))), [(2, .res 0 (.var 1)), (1, .cells (ch (cell1 (listS false) 10 3) [(3, .int .i64 (.int 11)), (10, .int .i64 (.int 1)), (11, .int .u64 (.int 0)), (12, .int .i64 (.int 0)), (13, .int .i64 (.int 0))]))], 56, (z8List00, false) :: z8List0p162⟩,
    ⟨true, .one (.c (.bool (.bool false))), [(2, .res 0 z8List060), (1, .cells (ch (cell1 (listS false) 10 3) [(3, .int .i64 (.int 6)), (8, .int .u64 z8List062)]))], 57, (z8List064, true) :: z8List0p164⟩,
    ⟨true, .one (.c (.bool (.bool true))), [(2, .res 0 z8List060), (1, .cells (ch (cell1 (listS false) 10 3) [(10, .int .i64 z8List063), (11, .int .u64 (.int 0)), (12, .int .i64 (.int 0)), (13, .int .i64 z8List066)]))], 57, (z8List00, true) :: z8List0p165⟩,
    ⟨true, .one (.c (.bool (.bool false))), [(2, .res 0 z8List060), (1, .cells (ch (cell1 (listS false) 10 3) [(3, .int .i64 (.int 11)), (10, .int .i64 z8List063), (11, .int .u64 (.int 0)), (12, .int .i64 (.int 0)), (13, .int .i64 z8List066)]))], 57, (z8List00, false) :: z8List0p165⟩,
    ⟨true, .one (.c (.bool (.bool false))), [(47, .res 7 z8List061), (2, .res 0 z8List060), (1, .cells (ch (cell1 (listS false) 10 3) [(4, .ptr 47 (.int 0))]))], 55, (z8List065, false) :: z8List0p163⟩,
    ⟨true, .one (.c (.bool (.bool false))), [(2, .res 0 (.var 1)), (1, .cells (ch (cell1 (listS false) 10 3) [(3, .int .i64 (.int 7))]))], 66, (z8List068, false) :: z8List0p167⟩,
    ⟨true, .one (.c (.bool (.bool false))), [(2, .res 0 z8List071), (1, .cells (ch (cell1 (listS false) 10 3) [(3, .int .i64 (.int 7))]))], 68, (z8List072, true) :: z8List0p168⟩,
    ⟨true, .one (.c (.bool (.bool false))), [(58, .res 7 z8List073), (2, .res 0 z8List071), (1, .cells (ch (cell1 (listS false) 10 3) [(4, .ptr 58 (.int 0))]))], 66, (z8List072, false) :: z8List0p168⟩,
    ⟨true, .one (.c (.bool (.bool false))), [(2, .res 0 (.var 1)), (1, .cells (ch (cell1 (listS false) 10 3) [(3, .int .i64 (.int 8))]))], 67, (z8List075, false) :: z8List0p170⟩,
    ⟨true, .one (.c (.bool (.bool false))), [(2, .res 0 z8List078), (1, .cells (ch (cell1 (listS false) 10 3) [(3, .int .i64 (.int 8))]))], 69, (z8List079, true) :: z8List0p171⟩,
    ⟨true, .one (.c (.bool (.bool false))), [(59, .res 7 z8List080), (2, .res 0 z8List078), (1, .cells (ch (cell1 (listS false) 10 3) [(4, .ptr 59 (.int 0))]))], 67, (z8List079, false) :: z8List0p171⟩,
    ⟨true, .one (.c (.bool (.bool false))), [(2, .res 0 (.var 1)), (1, .cells (ch (cell1 (listS false) 10 3) [(3, .int .i64 (.int 0))]))], 72, (z8List082, false) :: z8List0p173⟩,
    ⟨true, .one (.c (.bool (.bool true))), [(2, .res 0 z8List085), (1, .cells (ch (cell1 (listS false) 10 3) [(8, .int .u64 (.int 0)), (10, .int .i64 (.int 0)), (11, .int .u64 (.int 0)), (12, .int .i64 (.int 1)), (13, .int .i64 z8List087)]))], 74, (z8List088, true) :: z8List0p175⟩,
    ⟨true, .one (.c (.bool (.bool false))), [(2, .res 0 z8List085), (1, .cells (ch (cell1 (listS false) 10 3) [(3, .int .i64 (.int 0))]))], 74, (z8List088, false) :: z8List0p175⟩,
    ⟨true, .one (.c (.bool (.bool false))), [(64, .res 7 z8List086), (2, .res 0 z8List085), (1, .cells (ch (cell1 (listS false) 10 3) [(4, .ptr 64 (.int 0))]))], 72, (z8List089, false) :: z8List0p174⟩,
    ⟨true, .one (.c (.bool (.bool false))), [(2, .res 0 (.var 1)), (1, .cells (ch (cell1 (listS false) 10 3) [(3, .int .i64 (.int 0))]))], 71, (z8List091, false) :: z8List0p177⟩,
    ⟨true, .one (.c (.bool (.bool false))), [(2, .res 0 z8List094), (1, .cells (ch (cell1 (listS false) 10 3) [(3, .int .i64 (.int 10)), (10, .int .i64 (.int 0)), (11, .int .u64 (.int 0)), (12, .int .i64 (.int 1)), (13, .int .i64 z8List096)]))], 73, (z8List097, true) :: z8List0p179⟩,
    ⟨true, .one (.c (.bool (.bool false))), [(2, .res 0 z8List094), (1, .cells (ch (cell1 (listS false) 10 3) [(3, .int .i64 (.int 0))]))], 73, (z8List097, false) :: z8List0p179⟩,
    ⟨true, .one (.c (.bool (.bool false))), [(63, .res 7 z8List095), (2, .res 0 z8List094), (1, .cells (ch (cell1 (listS false) 10 3) [(4, .ptr 63 (.int 0))]))], 71, (z8List098, false) :: z8List0p178⟩,
    ⟨true, .one (.c (.bool (.bool false))), [(2, .res 0 (.var 1)), (1, .cells (ch (cell1 (listS false) 10 3) [(3, .int .i64 (.int 0))]))], 56, (z8List099, true) :: z8List0p181⟩,
    ⟨true, .one (.c (.bool (.bool true))), [(2, .res 0 (.var 1)), (1, .cells (ch (cell1 (listS false) 10 3) []))], 56, (z8List099, false) :: z8List0p181⟩,
    ⟨true, .one (.c (.bool (.bool false))), [(2, .res 0 z8List0103), (1, .cells (ch (cell1 (listS false) 10 3) [(3, .int .i64 (.int 3)), (7, .int .i64 z8List0105)]))], 58, (z8List0106, true) :: z8List0p185⟩,
    ⟨true, .one (.c (.bool (.bool false))), [(2, .res 0 z8List0103), (1, .cells (ch (cell1 (listS false) 10 3) [(3, .int .i64 (.int 2)), (7, .int .i64 z8List0105), (13, .int .i64 z8List0109)]))], 58, (z8List0106, false) :: z8List0p185⟩,
    ⟨true, .one (.c (.bool (.bool false))), [(2, .res 0 z8List0103), (1, .cells (ch (cell1 (listS false) 10 3) [(3, .int .i64 (.int 0))]))], 58, (z8List0107, false) :: z8List0p184⟩,
    ⟨true, .one (.c (.bool (.bool true))), [(2, .res 0 z8List0103), (1, .cells (ch (cell1 (listS false) 10 3) []))], 58, (z8List099, false) :: z8List0p183⟩,
    ⟨true, .one (.c (.bool (.bool false))), [(48, .res 7 z8List0104), (2, .res 0 z8List0103), (1, .cells (ch (cell1 (listS false) 10 3) [(4, .ptr 48 (.int 0))]))], 56, (z8List0108, false) :: z8List0p182⟩], by as_aux_lemma => kernel_rfl,
    allC_cons (way1 (listS false) (by simp [kinds]) (fun j => match j with | 9 => (.int 1) | 10 => (.int 0) | 11 => (.int 0) | 12 => (.int 0) | j => .var (j + 10)) (fun j => match j with | 1 => 1 | _ => 0) (by kernel_rfl) rfl rfl rfl (by kernel_rfl) ?_) <|
    allC_cons (way1 (listS false) (by simp [kinds]) (fun j => match j with | 3 => (.int 11) | 9 => (.int 1) | 10 => (.int 0) | 11 => (.int 0) | 12 => (.int 0) | j => .var (j + 10)) (fun j => match j with | 1 => 1 | _ => 0) (by kernel_rfl) rfl rfl rfl (by kernel_rfl) ?_) <|
    allC_cons (way1 (listS false) (by simp [kinds]) (fun j => match j with | 3 => (.int 5) | 4 => (.var 12) | 5 => z8List07 | 8 => z8List08 | j => .var (j + 10)) (fun j => match j with | 1 => 1 | _ => 0) (by kernel_rfl) rfl rfl rfl (by kernel_rfl) ?_) <|
    allC_cons (way1 (listS false) (by simp [kinds]) (fun j => match j with | 3 => (.int 7) | 4 => (.var 12) | 5 => z8List07 | 8 => z8List08 | j => .var (j + 10)) (fun j => match j with | 1 => 1 | _ => 0) (by kernel_rfl) rfl rfl rfl (by kernel_rfl) ?_) <|
    allC_cons (way1 (listS false) (by simp [kinds]) (fun j => match j with | 4 => (.var 12) | 5 => z8List07 | 8 => z8List08 | 9 => (.int 0) | 10 => (.int 0) | 11 => (.int 0) | 12 => z8List08 | j => .var (j + 10)) (fun j => match j with | 1 => 1 | _ => 0) (by kernel_rfl) rfl rfl rfl (by kernel_rfl) ?_) <|
    allC_cons (way1 (listS false) (by simp [kinds]) (fun j => match j with | 3 => (.int 11) | 4 => (.var 12) | 5 => z8List07 | 8 => z8List08 | 9 => (.int 0) | 10 => (.int 0) | 11 => (.int 0) | 12 => z8List08 | j => .var (j + 10)) (fun j => match j with | 1 => 1 | _ => 0) (by kernel_rfl) rfl rfl rfl (by kernel_rfl) ?_) <|
    allC_cons (way1 (listS false) (by simp [kinds]) (fun j => match j with | 3 => (.int 1) | 4 => (.var 12) | 5 => z8List07 | 8 => z8List08 | j => .var (j + 10)) (fun j => match j with | 1 => 1 | _ => 0) (by kernel_rfl) rfl rfl rfl (by kernel_rfl) ?_) <|
    allC_cons (way1 (listS false) (by simp [kinds]) (fun j => match j with | 9 => z8List011 | 10 => (.int 0) | 11 => (.int 0) | 12 => z8List08 | j => .var (j + 10)) (fun j => match j with | 1 => 1 | _ => 0) (by kernel_rfl) rfl rfl rfl (by kernel_rfl) ?_) <|
    allC_cons (way1 (listS false) (by simp [kinds]) (fun j => match j with | 3 => (.int 11) | 9 => z8List011 | 10 => (.int 0) | 11 => (.int 0) | 12 => z8List08 | j => .var (j + 10)) (fun j => match j with | 1 => 1 | _ => 0) (by kernel_rfl) rfl rfl rfl (by kernel_rfl) ?_) <|
    allC_cons (way1 (listS true) (by simp [kinds]) (fun j => match j with | 14 => z8List06 | j => .var (j + 10)) (fun j => match j with | 2 => 48 | 1 => 1 | _ => 0) (by kernel_rfl) rfl rfl rfl (by kernel_rfl) ?_) <|
    allC_cons (way1 (listS false) (by simp [kinds]) (fun j => match j with | 3 => (.int 0) | j => .var (j + 10)) (fun j => match j with | 1 => 1 | _ => 0) (by kernel_rfl) rfl rfl rfl (by kernel_rfl) ?_) <|
    allC_cons (way1 (listS false) (by simp [kinds]) (fun j => match j with | 3 => (.int 5) | 4 => (.var 15) | 5 => z8List019 | 8 => (.var 22) | j => .var (j + 10)) (fun j => match j with | 1 => 1 | _ => 0) (by kernel_rfl) rfl rfl rfl (by kernel_rfl) ?_) <|
    allC_cons (way1 (listS false) (by simp [kinds]) (fun j => match j with | 3 => (.int 7) | 4 => (.var 15) | 5 => z8List019 | 8 => (.var 22) | j => .var (j + 10)) (fun j => match j with | 1 => 1 | _ => 0) (by kernel_rfl) rfl rfl rfl (by kernel_rfl) ?_) <|
    allC_cons (way1 (listS false) (by simp [kinds]) (fun j => match j with | 4 => (.var 15) | 5 => z8List019 | 8 => (.var 22) | 9 => (.int 0) | 10 => (.int 0) | 11 => (.int 0) | j => .var (j + 10)) (fun j => match j with | 1 => 1 | _ => 0) (by kernel_rfl) rfl rfl rfl (by kernel_rfl) ?_) <|
    allC_cons (way1 (listS false) (by simp [kinds]) (fun j => match j with | 3 => (.int 11) | 4 => (.var 15) | 5 => z8List019 | 8 => (.var 22) | 9 => (.int 0) | 10 => (.int 0) | 11 => (.int 0) | j => .var (j + 10)) (fun j => match j with | 1 => 1 | _ => 0) (by kernel_rfl) rfl rfl rfl (by kernel_rfl) ?_) <|
    allC_cons (way1 (listS false) (by simp [kinds]) (fun j => match j with | 3 => (.int 1) | 4 => (.var 15) | 5 => z8List019 | 8 => (.var 22) | j => .var (j + 10)) (fun j => match j with | 1 => 1 | _ => 0) (by kernel_rfl) rfl rfl rfl (by kernel_rfl) ?_) <|
    allC_cons (way1 (listS false) (by simp [kinds]) (fun j => match j with | 3 => (.int 9) | j => .var (j + 10)) (fun j => match j with | 1 => 1 | _ => 0) (by kernel_rfl) rfl rfl rfl (by kernel_rfl) ?_) <|
    allC_cons (way1 (listS false) (by simp [kinds]) (fun j => match j with | 9 => (.int 0) | 10 => (.int 0) | 11 => (.int 0) | j => .var (j + 10)) (fun j => match j with | 1 => 1 | _ => 0) (by kernel_rfl) rfl rfl rfl (by kernel_rfl) ?_) <|
    allC_cons (way1 (listS false) (by simp [kinds]) (fun j => match j with | 3 => (.int 11) | 9 => (.int 0) | 10 => (.int 0) | 11 => (.int 0) | j => .var (j + 10)) (fun j => match j with | 1 => 1 | _ => 0) (by kernel_rfl) rfl rfl rfl (by kernel_rfl) ?_) <|
    allC_cons (way1 (listS false) (by simp [kinds]) (fun j => match j with | 9 => (.int 0) | 10 => (.int 0) | 11 => (.int 1) | j => .var (j + 10)) (fun j => match j with | 1 => 1 | _ => 0) (by kernel_rfl) rfl rfl rfl (by kernel_rfl) ?_) <|
    allC_cons (way1 (listS false) (by simp [kinds]) (fun j => match j with | 3 => (.int 11) | 9 => (.int 0) | 10 => (.int 0) | 11 => (.int 1) | j => .var (j + 10)) (fun j => match j with | 1 => 1 | _ => 0) (by kernel_rfl) rfl rfl rfl (by kernel_rfl) ?_) <|
    allC_cons (way1 (listS false) (by simp [kinds]) (fun j => match j with | 3 => (.int 5) | j => .var (j + 10)) (fun j => match j with | 1 => 1 | _ => 0) (by kernel_rfl) rfl rfl rfl (by kernel_rfl) ?_) <|
    allC_cons (way1 (listS false) (by simp [kinds]) (fun j => match j with | 3 => (.int 7) | j => .var (j + 10)) (fun j => match j with | 1 => 1 | _ => 0) (by kernel_rfl) rfl rfl rfl (by kernel_rfl) ?_) <|
    allC_cons (way1 (listS false) (by simp [kinds]) (fun j => match j with | 9 => (.int 0) | 10 => (.int 0) | 11 => (.int 0) | 12 => (.var 18) | j => .var (j + 10)) (fun j => match j with | 1 => 1 | _ => 0) (by kernel_rfl) rfl rfl rfl (by kernel_rfl) ?_) <|
    allC_cons (way1 (listS false) (by simp [kinds]) (fun j => match j with | 3 => (.int 11) | 9 => (.int 0) | 10 => (.int 0) | 11 => (.int 0) | 12 => (.var 18) | j => .var (j + 10)) (fun j => match j with | 1 => 1 | _ => 0) (by kernel_rfl) rfl rfl rfl (by kernel_rfl) ?_) <|
    allC_cons (way1 (listS false) (by simp [kinds]) (fun j => match j with | 3 => (.int 0) | j => .var (j + 10)) (fun j => match j with | 1 => 1 | _ => 0) (by kernel_rfl) rfl rfl rfl (by kernel_rfl) ?_) <|
    allC_cons (way1 (listS true) (by simp [kinds]) (fun j => match j with | 14 => z8List021 | j => .var (j + 10)) (fun j => match j with | 2 => 48 | 1 => 1 | _ => 0) (by kernel_rfl) rfl rfl rfl (by kernel_rfl) ?_) <|
    allC_cons (way1 (listS false) (by simp [kinds]) (fun j => match j with | 3 => (.int 0) | j => .var (j + 10)) (fun j => match j with | 1 => 1 | _ => 0) (by kernel_rfl) rfl rfl rfl (by kernel_rfl) ?_) <|
    allC_cons (way1 (listS false) (by simp [kinds]) (fun j => match j with | 3 => (.int 4) | 8 => z8List036 | j => .var (j + 10)) (fun j => match j with | 1 => 1 | _ => 0) (by kernel_rfl) rfl rfl rfl (by kernel_rfl) ?_) <|
    allC_cons (way1 (listS false) (by simp [kinds]) (fun j => match j with | 3 => (.int 0) | j => .var (j + 10)) (fun j => match j with | 1 => 1 | _ => 0) (by kernel_rfl) rfl rfl rfl (by kernel_rfl) ?_) <|
    allC_cons (way1 (listS true) (by simp [kinds]) (fun j => match j with | 14 => z8List035 | j => .var (j + 10)) (fun j => match j with | 2 => 67 | 1 => 1 | _ => 0) (by kernel_rfl) rfl rfl rfl (by kernel_rfl) ?_) <|
    allC_cons (way1 (listS false) (by simp [kinds]) (fun j => match j with | 3 => (.int 11) | j => .var (j + 10)) (fun j => match j with | 1 => 1 | _ => 0) (by kernel_rfl) rfl rfl rfl (by kernel_rfl) ?_) <|
    allC_cons (way1 (listS false) (by simp [kinds]) (fun j => match j with | 3 => (.int 11) | j => .var (j + 10)) (fun j => match j with | 1 => 1 | _ => 0) (by kernel_rfl) rfl rfl rfl (by kernel_rfl) ?_) <|
    allC_cons (way1 (listS true) (by simp [kinds]) (fun j => match j with | 14 => z8List035 | j => .var (j + 10)) (fun j => match j with | 2 => 67 | 1 => 1 | _ => 0) (by kernel_rfl) rfl rfl rfl (by kernel_rfl) ?_) <|
    allC_cons (way1 (listS false) (by simp [kinds]) (fun j => match j with | 3 => (.int 5) | 5 => z8List040 | j => .var (j + 10)) (fun j => match j with | 1 => 1 | _ => 0) (by kernel_rfl) rfl rfl rfl (by kernel_rfl) ?_) <|
    allC_cons (way1 (listS false) (by simp [kinds]) (fun j => match j with | 3 => (.int 7) | 5 => z8List040 | j => .var (j + 10)) (fun j => match j with | 1 => 1 | _ => 0) (by kernel_rfl) rfl rfl rfl (by kernel_rfl) ?_) <|
    allC_cons (way1 (listS false) (by simp [kinds]) (fun j => match j with | 5 => z8List040 | 9 => (.int 0) | 10 => (.int 0) | 11 => (.int 0) | 12 => (.var 18) | j => .var (j + 10)) (fun j => match j with | 1 => 1 | _ => 0) (by kernel_rfl) rfl rfl rfl (by kernel_rfl) ?_) <|
    allC_cons (way1 (listS false) (by simp [kinds]) (fun j => match j with | 3 => (.int 11) | 5 => z8List040 | 9 => (.int 0) | 10 => (.int 0) | 11 => (.int 0) | 12 => (.var 18) | j => .var (j + 10)) (fun j => match j with | 1 => 1 | _ => 0) (by kernel_rfl) rfl rfl rfl (by kernel_rfl) ?_) <|
    allC_cons (way1 (listS false) (by simp [kinds]) (fun j => match j with | 3 => (.int 1) | 5 => z8List040 | j => .var (j + 10)) (fun j => match j with | 1 => 1 | _ => 0) (by kernel_rfl) rfl rfl rfl (by kernel_rfl) ?_) <|
    allC_cons (way1 (listS false) (by simp [kinds]) (fun j => match j with | 3 => (.int 5) | 5 => z8List040 | j => .var (j + 10)) (fun j => match j with | 1 => 1 | _ => 0) (by kernel_rfl) rfl rfl rfl (by kernel_rfl) ?_) <|
    allC_cons (way1 (listS false) (by simp [kinds]) (fun j => match j with | 3 => (.int 7) | 5 => z8List040 | j => .var (j + 10)) (fun j => match j with | 1 => 1 | _ => 0) (by kernel_rfl) rfl rfl rfl (by kernel_rfl) ?_) <|
    allC_cons (way1 (listS false) (by simp [kinds]) (fun j => match j with | 5 => z8List040 | 9 => (.int 0) | 10 => (.int 0) | 11 => (.int 0) | 12 => (.var 18) | j => .var (j + 10)) (fun j => match j with | 1 => 1 | _ => 0) (by kernel_rfl) rfl rfl rfl (by kernel_rfl) ?_) <|
    allC_cons (way1 (listS false) (by simp [kinds]) (fun j => match j with | 3 => (.int 11) | 5 => z8List040 | 9 => (.int 0) | 10 => (.int 0) | 11 => (.int 0) | 12 => (.var 18) | j => .var (j + 10)) (fun j => match j with | 1 => 1 | _ => 0) (by kernel_rfl) rfl rfl rfl (by kernel_rfl) ?_) <|
    allC_cons (way1 (listS false) (by simp [kinds]) (fun j => match j with | 3 => (.int 1) | 5 => z8List040 | j => .var (j + 10)) (fun j => match j with | 1 => 1 | _ => 0) (by kernel_rfl) rfl rfl rfl (by kernel_rfl) ?_) <|
    allC_cons (way1 (listS true) (by simp [kinds]) (fun j => match j with | 14 => z8List048 | j => .var (j + 10)) (fun j => match j with | 2 => 47 | 1 => 1 | _ => 0) (by kernel_rfl) rfl rfl rfl (by kernel_rfl) ?_) <|
    allC_cons (way1 (listS false) (by simp [kinds]) (fun j => match j with  | j => .var (j + 10)) (fun j => match j with | 1 => 1 | _ => 0) (by kernel_rfl) rfl rfl rfl (by kernel_rfl) ?_) <|
    allC_cons (way1 (listS false) (by simp [kinds]) (fun j => match j with  | j => .var (j + 10)) (fun j => match j with | 1 => 1 | _ => 0) (by kernel_rfl) rfl rfl rfl (by kernel_rfl) ?_) <|
    allC_cons (way1 (listS true) (by simp [kinds]) (fun j => match j with | 14 => z8List048 | j => .var (j + 10)) (fun j => match j with | 2 => 47 | 1 => 1 | _ => 0) (by kernel_rfl) rfl rfl rfl (by kernel_rfl) ?_) <|
    allC_cons (way1 (listS false) (by simp [kinds]) (fun j => match j with  | j => .var (j + 10)) (fun j => match j with | 1 => 1 | _ => 0) (by kernel_rfl) rfl rfl rfl (by kernel_rfl) ?_) <|
    allC_cons (way1 (listS false) (by simp [kinds]) (fun j => match j with  | j => .var (j + 10)) (fun j => match j with | 1 => 1 | _ => 0) (by kernel_rfl) rfl rfl rfl (by kernel_rfl) ?_) <|
    allC_cons (way1 (listS true) (by simp [kinds]) (fun j => match j with | 14 => z8List055 | j => .var (j + 10)) (fun j => match j with | 2 => 47 | 1 => 1 | _ => 0) (by kernel_rfl) rfl rfl rfl (by kernel_rfl) ?_) <|
    allC_cons (way1 (listS false) (by simp [kinds]) (fun j => match j with | 9 => (.int 1) | 10 => (.int 0) | 11 => (.int 0) | 12 => (.int 0) | j => .var (j + 10)) (fun j => match j with | 1 => 1 | _ => 0) (by kernel_rfl) rfl rfl rfl (by kernel_rfl) ?_) <|
    allC_cons (way1 (listS false) (by simp [kinds]) (fun j => match j with | 3 => (.int 11) | 9 => (.int 1) | 10 => (.int 0) | 11 => (.int 0) | 12 => (.int 0) | j => .var (j + 10)) (fun j => match j with | 1 => 1 | _ => 0) (by kernel_rfl) rfl rfl rfl (by kernel_rfl) ?_) <|
    allC_cons (way1 (listS false) (by simp [kinds]) (fun j => match j with | 3 => (.int 6) | 7 => z8List062 | j => .var (j + 10)) (fun j => match j with | 1 => 1 | _ => 0) (by kernel_rfl) rfl rfl rfl (by kernel_rfl) ?_) <|
    allC_cons (way1 (listS false) (by simp [kinds]) (fun j => match j with | 9 => z8List063 | 10 => (.int 0) | 11 => (.int 0) | 12 => z8List066 | j => .var (j + 10)) (fun j => match j with | 1 => 1 | _ => 0) (by kernel_rfl) rfl rfl rfl (by kernel_rfl) ?_) <|
    allC_cons (way1 (listS false) (by simp [kinds]) (fun j => match j with | 3 => (.int 11) | 9 => z8List063 | 10 => (.int 0) | 11 => (.int 0) | 12 => z8List066 | j => .var (j + 10)) (fun j => match j with | 1 => 1 | _ => 0) (by kernel_rfl) rfl rfl rfl (by kernel_rfl) ?_) <|
    allC_cons (way1 (listS true) (by simp [kinds]) (fun j => match j with | 14 => z8List061 | j => .var (j + 10)) (fun j => match j with | 2 => 47 | 1 => 1 | _ => 0) (by kernel_rfl) rfl rfl rfl (by kernel_rfl) ?_) <|
    allC_cons (way1 (listS false) (by simp [kinds]) (fun j => match j with | 3 => (.int 7) | j => .var (j + 10)) (fun j => match j with | 1 => 1 | _ => 0) (by kernel_rfl) rfl rfl rfl (by kernel_rfl) ?_) <|
    allC_cons (way1 (listS false) (by simp [kinds]) (fun j => match j with | 3 => (.int 7) | j => .var (j + 10)) (fun j => match j with | 1 => 1 | _ => 0) (by kernel_rfl) rfl rfl rfl (by kernel_rfl) ?_) <|
    allC_cons (way1 (listS true) (by simp [kinds]) (fun j => match j with | 14 => z8List073 | j => .var (j + 10)) (fun j => match j with | 2 => 58 | 1 => 1 | _ => 0) (by kernel_rfl) rfl rfl rfl (by kernel_rfl) ?_) <|
    allC_cons (way1 (listS false) (by simp [kinds]) (fun j => match j with | 3 => (.int 8) | j => .var (j + 10)) (fun j => match j with | 1 => 1 | _ => 0) (by kernel_rfl) rfl rfl rfl (by kernel_rfl) ?_) <|
    allC_cons (way1 (listS false) (by simp [kinds]) (fun j => match j with | 3 => (.int 8) | j => .var (j + 10)) (fun j => match j with | 1 => 1 | _ => 0) (by kernel_rfl) rfl rfl rfl (by kernel_rfl) ?_) <|
    allC_cons (way1 (listS true) (by simp [kinds]) (fun j => match j with | 14 => z8List080 | j => .var (j + 10)) (fun j => match j with | 2 => 59 | 1 => 1 | _ => 0) (by kernel_rfl) rfl rfl rfl (by kernel_rfl) ?_) <|
    allC_cons (way1 (listS false) (by simp [kinds]) (fun j => match j with | 3 => (.int 0) | j => .var (j + 10)) (fun j => match j with | 1 => 1 | _ => 0) (by kernel_rfl) rfl rfl rfl (by kernel_rfl) ?_) <|
    allC_cons (way1 (listS false) (by simp [kinds]) (fun j => match j with | 7 => (.int 0) | 9 => (.int 0) | 10 => (.int 0) | 11 => (.int 1) | 12 => z8List087 | j => .var (j + 10)) (fun j => match j with | 1 => 1 | _ => 0) (by kernel_rfl) rfl rfl rfl (by kernel_rfl) ?_) <|
    allC_cons (way1 (listS false) (by simp [kinds]) (fun j => match j with | 3 => (.int 0) | j => .var (j + 10)) (fun j => match j with | 1 => 1 | _ => 0) (by kernel_rfl) rfl rfl rfl (by kernel_rfl) ?_) <|
    allC_cons (way1 (listS true) (by simp [kinds]) (fun j => match j with | 14 => z8List086 | j => .var (j + 10)) (fun j => match j with | 2 => 64 | 1 => 1 | _ => 0) (by kernel_rfl) rfl rfl rfl (by kernel_rfl) ?_) <|
    allC_cons (way1 (listS false) (by simp [kinds]) (fun j => match j with | 3 => (.int 0) | j => .var (j + 10)) (fun j => match j with | 1 => 1 | _ => 0) (by kernel_rfl) rfl rfl rfl (by kernel_rfl) ?_) <|
    allC_cons (way1 (listS false) (by simp [kinds]) (fun j => match j with | 3 => (.int 10) | 9 => (.int 0) | 10 => (.int 0) | 11 => (.int 1) | 12 => z8List096 | j => .var (j + 10)) (fun j => match j with | 1 => 1 | _ => 0) (by kernel_rfl) rfl rfl rfl (by kernel_rfl) ?_) <|
    allC_cons (way1 (listS false) (by simp [kinds]) (fun j => match j with | 3 => (.int 0) | j => .var (j + 10)) (fun j => match j with | 1 => 1 | _ => 0) (by kernel_rfl) rfl rfl rfl (by kernel_rfl) ?_) <|
    allC_cons (way1 (listS true) (by simp [kinds]) (fun j => match j with | 14 => z8List095 | j => .var (j + 10)) (fun j => match j with | 2 => 63 | 1 => 1 | _ => 0) (by kernel_rfl) rfl rfl rfl (by kernel_rfl) ?_) <|
    allC_cons (way1 (listS false) (by simp [kinds]) (fun j => match j with | 3 => (.int 0) | j => .var (j + 10)) (fun j => match j with | 1 => 1 | _ => 0) (by kernel_rfl) rfl rfl rfl (by kernel_rfl) ?_) <|
    allC_cons (way1 (listS false) (by simp [kinds]) (fun j => match j with  | j => .var (j + 10)) (fun j => match j with | 1 => 1 | _ => 0) (by kernel_rfl) rfl rfl rfl (by kernel_rfl) ?_) <|
    allC_cons (way1 (listS false) (by simp [kinds]) (fun j => match j with | 3 => (.int 3) | 6 => z8List0105 | j => .var (j + 10)) (fun j => match j with | 1 => 1 | _ => 0) (by kernel_rfl) rfl rfl rfl (by kernel_rfl) ?_) <|
    allC_cons (way1 (listS false) (by simp [kinds]) (fun j => match j with | 3 => (.int 2) | 6 => z8List0105 | 12 => z8List0109 | j => .var (j + 10)) (fun j => match j with | 1 => 1 | _ => 0) (by kernel_rfl) rfl rfl rfl (by kernel_rfl) ?_) <|
    allC_cons (way1 (listS false) (by simp [kinds]) (fun j => match j with | 3 => (.int 0) | j => .var (j + 10)) (fun j => match j with | 1 => 1 | _ => 0) (by kernel_rfl) rfl rfl rfl (by kernel_rfl) ?_) <|
    allC_cons (way1 (listS false) (by simp [kinds]) (fun j => match j with  | j => .var (j + 10)) (fun j => match j with | 1 => 1 | _ => 0) (by kernel_rfl) rfl rfl rfl (by kernel_rfl) ?_) <|
    allC_cons (way1 (listS true) (by simp [kinds]) (fun j => match j with | 14 => z8List0104 | j => .var (j + 10)) (fun j => match j with | 2 => 48 | 1 => 1 | _ => 0) (by kernel_rfl) rfl rfl rfl (by kernel_rfl) ?_) <|
    allC_nil _⟩ 
  )
  all_goals as_aux_lemma =>
    intro n hp hg hi
    simp only [pt_nil, pt_cons, E.den, sg_f1, sg_f2, sg_f3, sg_f4, f1_0, f1_1, f1_2, f1_3, f1_4, f1_5, f1_6, f1_72, f1_73, f1_74, f1_75, f1_90, f1_91, f1_80, f1_81, f2_40, f4_40, f4_41, f4_42, f4_51, f4_50, f4_43, f4_44, f4_45, O1.ap, O3.ap, ap_arith, ap_bits, ap_div, ap_shift, ap_eql, ap_lss, ap_beq, ap_min, ap_max, ap_nthI, ap_nthB, ap_inI, ap_inB, G.toInt_int, G.toBool_bool, G.toInts_ints, ltI_t, ltI_f, inN_t, inN_f, and_true, Nat.zero_add, Nat.reduceAdd, arith_add, arith_sub, arith_mul, i64, u64, cas_by, openAt, pinAt, gplace_u, ggive_u, ghelp_u, galloc_u, gdrop_u, gaccess_u, gact_u, glst_u, gmem_u, gactx_u, gquad_u, Bool.not_eq_true', Bool.not_eq_false', beq_iff_eq, beq_eq_false_iff_ne, ne_eq] at hp
    simp only [mList, stepSp, doneSp, e4, listS, optG, optH, optP, wishE, sg_f1, sg_f2, sg_f3, sg_f4, f1_0, f1_1, f1_2, f1_3, f1_4, f1_5, f1_6, f1_72, f1_73, f1_74, f1_75, f1_90, f1_91, f1_80, f1_81, f2_40, f4_40, f4_41, f4_42, f4_51, f4_50, f4_43, f4_44, f4_45, O1.ap, O3.ap, ap_arith, ap_bits, ap_div, ap_shift, ap_eql, ap_lss, ap_beq, ap_min, ap_max, ap_nthI, ap_nthB, ap_inI, ap_inB, G.toInt_int, G.toBool_bool, G.toInts_ints, ltI_t, ltI_f, inN_t, inN_f, and_true, Nat.zero_add, Nat.reduceAdd, arith_add, arith_sub, arith_mul, i64, u64, cas_by, openAt, pinAt] at hg hi
    first
    | (simp only [mList, stepSp, doneSp, e4, listS, optG, optH, optP, wishE, xi, xu, xb, SV.den, S2.den, S1.den, cellsDen, List.map, iE, uE, bE, E.den, sg_f1, sg_f2, sg_f3, sg_f4, f1_0, f1_1, f1_2, f1_3, f1_4, f1_5, f1_6, f1_72, f1_73, f1_74, f1_75, f1_90, f1_91, f1_80, f1_81, f2_40, f4_40, f4_41, f4_42, f4_51, f4_50, f4_43, f4_44, f4_45, O1.ap, O3.ap, ap_arith, ap_bits, ap_div, ap_shift, ap_eql, ap_lss, ap_beq, ap_min, ap_max, ap_nthI, ap_nthB, ap_inI, ap_inB, G.toInt_int, G.toBool_bool, G.toInts_ints, ltI_t, ltI_f, inN_t, inN_f, and_true, Nat.zero_add, Nat.reduceAdd, arith_add, arith_sub, arith_mul, i64, u64, cas_by, openAt, pinAt, hg, gplace_u, ggive_u, ghelp_u, galloc_u, gdrop_u, gaccess_u, gact_u, glst_u, gmem_u, listStep, listWant, listTold, listLooked, listUnlinked, listJoined, listRemoved, listAt, listAbsent, listPresent, listAgain, listEnd, ibits, gactx_u, gquad_u, hp, reduceIte, if_true, if_false, not_true, not_false_iff, Classical.not_not, true_and, and_true, false_and, and_false, true_or, or_true, false_or, or_false, Bool.not_true, Bool.not_false, Bool.and_true, Bool.and_false, Bool.false_and, Bool.true_and, decide_true, decide_false, Int.reduceEq, Bool.false_eq_true, Bool.true_eq_false]; done)
    | (simp only [mList, stepSp, doneSp, e4, listS, optG, optH, optP, wishE, xi, xu, xb, SV.den, S2.den, S1.den, cellsDen, List.map, iE, uE, bE, E.den, sg_f1, sg_f2, sg_f3, sg_f4, f1_0, f1_1, f1_2, f1_3, f1_4, f1_5, f1_6, f1_72, f1_73, f1_74, f1_75, f1_90, f1_91, f1_80, f1_81, f2_40, f4_40, f4_41, f4_42, f4_51, f4_50, f4_43, f4_44, f4_45, O1.ap, O3.ap, ap_arith, ap_bits, ap_div, ap_shift, ap_eql, ap_lss, ap_beq, ap_min, ap_max, ap_nthI, ap_nthB, ap_inI, ap_inB, G.toInt_int, G.toBool_bool, G.toInts_ints, ltI_t, ltI_f, inN_t, inN_f, and_true, Nat.zero_add, Nat.reduceAdd, arith_add, arith_sub, arith_mul, i64, u64, cas_by, openAt, pinAt, hg, gplace_u, ggive_u, ghelp_u, galloc_u, gdrop_u, gaccess_u, gact_u, glst_u, gmem_u, listStep, listWant, listTold, listLooked, listUnlinked, listJoined, listRemoved, listAt, listAbsent, listPresent, listAgain, listEnd, ibits, gactx_u, gquad_u]; simp [hp]; done)
    | (simp only [mList, stepSp, doneSp, e4, listS, optG, optH, optP, wishE, xi, xu, xb, SV.den, S2.den, S1.den, cellsDen, List.map, iE, uE, bE, E.den, sg_f1, sg_f2, sg_f3, sg_f4, f1_0, f1_1, f1_2, f1_3, f1_4, f1_5, f1_6, f1_72, f1_73, f1_74, f1_75, f1_90, f1_91, f1_80, f1_81, f2_40, f4_40, f4_41, f4_42, f4_51, f4_50, f4_43, f4_44, f4_45, O1.ap, O3.ap, ap_arith, ap_bits, ap_div, ap_shift, ap_eql, ap_lss, ap_beq, ap_min, ap_max, ap_nthI, ap_nthB, ap_inI, ap_inB, G.toInt_int, G.toBool_bool, G.toInts_ints, ltI_t, ltI_f, inN_t, inN_f, and_true, Nat.zero_add, Nat.reduceAdd, arith_add, arith_sub, arith_mul, i64, u64, cas_by, openAt, pinAt, hg, gplace_u, ggive_u, ghelp_u, galloc_u, gdrop_u, gaccess_u, gact_u, glst_u, gmem_u, listStep, listWant, listTold, listLooked, listUnlinked, listJoined, listRemoved, listAt, listAbsent, listPresent, listAgain, listEnd, ibits, gactx_u, gquad_u]; simp_all; done)
    | (exfalso; omega)
    | skip

end Go.Fl
